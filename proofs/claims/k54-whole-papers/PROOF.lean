import PyProof.Rows.All
import Wide.All
import OpenK.AllK
import Wide.FinOn
import KE.KStateDown
import Lean
import HandS.ForMost
import HandS.IsInst
import HandS.Defaults
import HandS.Exc
import HandS.Head0
import HandS.Head1
import HandS.Head2
import HandS.HeadEnd
import HandS.HeadHook1
import HandS.HeadHook2
import PySem.Challenge.RW_steadyhand_k54_whole_papers_of_falls_hol
import KE.GoesEnum
import HandS.Wide
import HandS.TupAny
import HandS.TupMul
import HandS.NoneIn
import HandS.Style
import HandS.Walk
import HandS.Zip
section
set_option Elab.async false
set_option linter.all false
set_option maxRecDepth 100000
set_option maxHeartbeats 0
namespace Tx
open PySem PySem.Spec PyProof.Rows L2
def top (i : Nat) : Stmt := PySem.Challenge.pw_steadyhand_k54_whole_papers_of_falls_hol.main.body.getD i (.Pass ⟨0, 0, 0, 0⟩)
abbrev scheck_closed : Stmt := top 7
abbrev sComes_init : Stmt := inClass (top 9) 0
abbrev sis_whole : Stmt := top 11
abbrev ssummed_by : Stmt := top 13
abbrev swidened : Stmt := top 14
abbrev spush_rows : Stmt := top 15
abbrev sstanding : Stmt := top 16
abbrev sreach : Stmt := top 17
abbrev sadded : Stmt := top 19
abbrev sare_shares : Stmt := top 20
abbrev sshows : Stmt := top 21
abbrev sown : Stmt := top 26
abbrev sown_list : Stmt := top 27
abbrev sare_wholes : Stmt := top 28
abbrev sis_row : Stmt := top 29
abbrev sis_room : Stmt := top 30
abbrev sis_table : Stmt := top 31
abbrev sMode_init : Stmt := inClass (top 32) 0
abbrev sis_mode : Stmt := top 33
abbrev sis_push : Stmt := top 34
abbrev sThing_init : Stmt := inClass (top 35) 0
abbrev sThing_pushes : Stmt := inClass (top 35) 1
abbrev sThing_modes : Stmt := inClass (top 35) 2
abbrev sThing_is_closed : Stmt := inClass (top 35) 3
abbrev skept : Stmt := top 37
abbrev sall_show : Stmt := top 38
abbrev sis_part : Stmt := top 39
abbrev ssteps_show : Stmt := top 40
abbrev sturned_about : Stmt := top 41
abbrev sfall : Stmt := top 42
abbrev sFalls_init : Stmt := inClass (top 44) 0
abbrev sFalls_falls_by : Stmt := inClass (top 44) 1
abbrev sFalls_is_high : Stmt := inClass (top 44) 2
abbrev sFalls_is_for : Stmt := inClass (top 44) 3
abbrev slets_by : Stmt := top 45
abbrev s_law_cell_at : Stmt := top 47
abbrev s_law_stream : Stmt := top 48
abbrev s_law_divisor : Stmt := top 49
abbrev s_law_lowest : Stmt := top 50
abbrev s_law_plus : Stmt := top 51
abbrev s_law_along : Stmt := top 52
abbrev s_law_holds : Stmt := top 53
abbrev s_law_lies : Stmt := top 54
abbrev s_law_number : Stmt := top 55
abbrev s_law_made : Stmt := top 56
abbrev s_law_box : Stmt := top 57
abbrev s_law_rows : Stmt := top 58
abbrev s_law_point : Stmt := top 59
abbrev s_law_top : Stmt := top 60
abbrev s_law_both : Stmt := top 61
abbrev s_law_drift : Stmt := top 62
abbrev s_law_drift_mode : Stmt := top 63
abbrev s_law_pushed : Stmt := top 64
abbrev s_law_falling : Stmt := top 65
abbrev s_law_fall_parts : Stmt := top 66
abbrev s_law_behind : Stmt := top 67
abbrev s_law_run : Stmt := top 68
abbrev s_law_other : Stmt := top 69
abbrev s_law_changed : Stmt := top 70
abbrev s_law_spoilt : Stmt := top 71
abbrev slaw : Stmt := top 72
def dcheck_closed : He.DefD := ⟨("check_closed", none), "check_closed", "check_closed", defArgs scheck_closed, defBody scheck_closed, defScope scheck_closed, [], []⟩
def dComes_init : He.DefD := ⟨("Comes", some "__init__"), "__init__", "Comes.__init__", defArgs sComes_init, defBody sComes_init, defScope sComes_init, [], []⟩
def dis_whole : He.DefD := ⟨("is_whole", none), "is_whole", "is_whole", defArgs sis_whole, defBody sis_whole, defScope sis_whole, [], []⟩
def dsummed_by : He.DefD := ⟨("summed_by", none), "summed_by", "summed_by", defArgs ssummed_by, defBody ssummed_by, defScope ssummed_by, [], []⟩
def dwidened : He.DefD := ⟨("widened", none), "widened", "widened", defArgs swidened, defBody swidened, defScope swidened, [], []⟩
def dpush_rows : He.DefD := ⟨("push_rows", none), "push_rows", "push_rows", defArgs spush_rows, defBody spush_rows, defScope spush_rows, [], []⟩
def dstanding : He.DefD := ⟨("standing", none), "standing", "standing", defArgs sstanding, defBody sstanding, defScope sstanding, [], []⟩
def dreach : He.DefD := ⟨("reach", none), "reach", "reach", defArgs sreach, defBody sreach, defScope sreach, [], []⟩
def dadded : He.DefD := ⟨("added", none), "added", "added", defArgs sadded, defBody sadded, defScope sadded, [], []⟩
def dare_shares : He.DefD := ⟨("are_shares", none), "are_shares", "are_shares", defArgs sare_shares, defBody sare_shares, defScope sare_shares, [], []⟩
def dshows : He.DefD := ⟨("shows", none), "shows", "shows", defArgs sshows, defBody sshows, defScope sshows, [], []⟩
def down : He.DefD := ⟨("own", none), "own", "own", defArgs sown, defBody sown, defScope sown, [], []⟩
def down_list : He.DefD := ⟨("own_list", none), "own_list", "own_list", defArgs sown_list, defBody sown_list, defScope sown_list, [], []⟩
def dare_wholes : He.DefD := ⟨("are_wholes", none), "are_wholes", "are_wholes", defArgs sare_wholes, defBody sare_wholes, defScope sare_wholes, [], []⟩
def dis_row : He.DefD := ⟨("is_row", none), "is_row", "is_row", defArgs sis_row, defBody sis_row, defScope sis_row, [], []⟩
def dis_room : He.DefD := ⟨("is_room", none), "is_room", "is_room", defArgs sis_room, defBody sis_room, defScope sis_room, [], []⟩
def dis_table : He.DefD := ⟨("is_table", none), "is_table", "is_table", defArgs sis_table, defBody sis_table, defScope sis_table, [], []⟩
def dMode_init : He.DefD := ⟨("Mode", some "__init__"), "__init__", "Mode.__init__", defArgs sMode_init, defBody sMode_init, defScope sMode_init, [], []⟩
def dis_mode : He.DefD := ⟨("is_mode", none), "is_mode", "is_mode", defArgs sis_mode, defBody sis_mode, defScope sis_mode, [], []⟩
def dis_push : He.DefD := ⟨("is_push", none), "is_push", "is_push", defArgs sis_push, defBody sis_push, defScope sis_push, [], []⟩
def dThing_init : He.DefD := ⟨("Thing", some "__init__"), "__init__", "Thing.__init__", defArgs sThing_init, defBody sThing_init, defScope sThing_init, [], []⟩
def dThing_pushes : He.DefD := ⟨("Thing", some "pushes"), "pushes", "Thing.pushes", defArgs sThing_pushes, defBody sThing_pushes, defScope sThing_pushes, [], []⟩
def dThing_modes : He.DefD := ⟨("Thing", some "modes"), "modes", "Thing.modes", defArgs sThing_modes, defBody sThing_modes, defScope sThing_modes, [], []⟩
def dThing_is_closed : He.DefD := ⟨("Thing", some "is_closed"), "is_closed", "Thing.is_closed", defArgs sThing_is_closed, defBody sThing_is_closed, defScope sThing_is_closed, [], []⟩
def dkept : He.DefD := ⟨("kept", none), "kept", "kept", defArgs skept, defBody skept, defScope skept, [], []⟩
def dall_show : He.DefD := ⟨("all_show", none), "all_show", "all_show", defArgs sall_show, defBody sall_show, defScope sall_show, [], []⟩
def dis_part : He.DefD := ⟨("is_part", none), "is_part", "is_part", defArgs sis_part, defBody sis_part, defScope sis_part, [], []⟩
def dsteps_show : He.DefD := ⟨("steps_show", none), "steps_show", "steps_show", defArgs ssteps_show, defBody ssteps_show, defScope ssteps_show, [], []⟩
def dturned_about : He.DefD := ⟨("turned_about", none), "turned_about", "turned_about", defArgs sturned_about, defBody sturned_about, defScope sturned_about, [], []⟩
def dfall : He.DefD := ⟨("fall", none), "fall", "fall", defArgs sfall, defBody sfall, defScope sfall, [], []⟩
def dFalls_init : He.DefD := ⟨("Falls", some "__init__"), "__init__", "Falls.__init__", defArgs sFalls_init, defBody sFalls_init, defScope sFalls_init, [], []⟩
def dFalls_falls_by : He.DefD := ⟨("Falls", some "falls_by"), "falls_by", "Falls.falls_by", defArgs sFalls_falls_by, defBody sFalls_falls_by, defScope sFalls_falls_by, [], []⟩
def dFalls_is_high : He.DefD := ⟨("Falls", some "is_high"), "is_high", "Falls.is_high", defArgs sFalls_is_high, defBody sFalls_is_high, defScope sFalls_is_high, [], []⟩
def dFalls_is_for : He.DefD := ⟨("Falls", some "is_for"), "is_for", "Falls.is_for", defArgs sFalls_is_for, defBody sFalls_is_for, defScope sFalls_is_for, [], []⟩
def dlets_by : He.DefD := ⟨("lets_by", none), "lets_by", "lets_by", defArgs slets_by, defBody slets_by, defScope slets_by, [], []⟩
def d_law_cell_at : He.DefD := ⟨("_law_cell_at", none), "_law_cell_at", "_law_cell_at", defArgs s_law_cell_at, defBody s_law_cell_at, defScope s_law_cell_at, [], []⟩
def d_law_stream : He.DefD := ⟨("_law_stream", none), "_law_stream", "_law_stream", defArgs s_law_stream, defBody s_law_stream, defScope s_law_stream, [], []⟩
def d_law_divisor : He.DefD := ⟨("_law_divisor", none), "_law_divisor", "_law_divisor", defArgs s_law_divisor, defBody s_law_divisor, defScope s_law_divisor, [], []⟩
def d_law_lowest : He.DefD := ⟨("_law_lowest", none), "_law_lowest", "_law_lowest", defArgs s_law_lowest, defBody s_law_lowest, defScope s_law_lowest, [], []⟩
def d_law_plus : He.DefD := ⟨("_law_plus", none), "_law_plus", "_law_plus", defArgs s_law_plus, defBody s_law_plus, defScope s_law_plus, [], []⟩
def d_law_along : He.DefD := ⟨("_law_along", none), "_law_along", "_law_along", defArgs s_law_along, defBody s_law_along, defScope s_law_along, [], []⟩
def d_law_holds : He.DefD := ⟨("_law_holds", none), "_law_holds", "_law_holds", defArgs s_law_holds, defBody s_law_holds, defScope s_law_holds, [], []⟩
def d_law_lies : He.DefD := ⟨("_law_lies", none), "_law_lies", "_law_lies", defArgs s_law_lies, defBody s_law_lies, defScope s_law_lies, [], []⟩
def d_law_number : He.DefD := ⟨("_law_number", none), "_law_number", "_law_number", defArgs s_law_number, defBody s_law_number, defScope s_law_number, [], []⟩
def d_law_made : He.DefD := ⟨("_law_made", none), "_law_made", "_law_made", defArgs s_law_made, defBody s_law_made, defScope s_law_made, [], []⟩
def d_law_box : He.DefD := ⟨("_law_box", none), "_law_box", "_law_box", defArgs s_law_box, defBody s_law_box, defScope s_law_box, [], []⟩
def d_law_rows : He.DefD := ⟨("_law_rows", none), "_law_rows", "_law_rows", defArgs s_law_rows, defBody s_law_rows, defScope s_law_rows, [], []⟩
def d_law_point : He.DefD := ⟨("_law_point", none), "_law_point", "_law_point", defArgs s_law_point, defBody s_law_point, defScope s_law_point, [], []⟩
def d_law_top : He.DefD := ⟨("_law_top", none), "_law_top", "_law_top", defArgs s_law_top, defBody s_law_top, defScope s_law_top, [], []⟩
def d_law_both : He.DefD := ⟨("_law_both", none), "_law_both", "_law_both", defArgs s_law_both, defBody s_law_both, defScope s_law_both, [], []⟩
def d_law_drift : He.DefD := ⟨("_law_drift", none), "_law_drift", "_law_drift", defArgs s_law_drift, defBody s_law_drift, defScope s_law_drift, [], []⟩
def d_law_drift_mode : He.DefD := ⟨("_law_drift_mode", none), "_law_drift_mode", "_law_drift_mode", defArgs s_law_drift_mode, defBody s_law_drift_mode, defScope s_law_drift_mode, [], []⟩
def d_law_pushed : He.DefD := ⟨("_law_pushed", none), "_law_pushed", "_law_pushed", defArgs s_law_pushed, defBody s_law_pushed, defScope s_law_pushed, [], []⟩
def d_law_falling : He.DefD := ⟨("_law_falling", none), "_law_falling", "_law_falling", defArgs s_law_falling, defBody s_law_falling, defScope s_law_falling, [], []⟩
def d_law_fall_parts : He.DefD := ⟨("_law_fall_parts", none), "_law_fall_parts", "_law_fall_parts", defArgs s_law_fall_parts, defBody s_law_fall_parts, defScope s_law_fall_parts, [], []⟩
def d_law_behind : He.DefD := ⟨("_law_behind", none), "_law_behind", "_law_behind", defArgs s_law_behind, defBody s_law_behind, defScope s_law_behind, [], []⟩
def d_law_run : He.DefD := ⟨("_law_run", none), "_law_run", "_law_run", defArgs s_law_run, defBody s_law_run, defScope s_law_run, [], []⟩
def d_law_other : He.DefD := ⟨("_law_other", none), "_law_other", "_law_other", defArgs s_law_other, defBody s_law_other, defScope s_law_other, [], []⟩
def d_law_changed : He.DefD := ⟨("_law_changed", none), "_law_changed", "_law_changed", defArgs s_law_changed, defBody s_law_changed, defScope s_law_changed, [], []⟩
def d_law_spoilt : He.DefD := ⟨("_law_spoilt", none), "_law_spoilt", "_law_spoilt", defArgs s_law_spoilt, defBody s_law_spoilt, defScope s_law_spoilt, [], []⟩
def dlaw : He.DefD := ⟨("law", none), "law", "law", defArgs slaw, defBody slaw, defScope slaw, [], []⟩
def fn : List He.DefD := [dcheck_closed, dComes_init, dis_whole, dsummed_by, dwidened, dpush_rows, dstanding, dreach, dadded, dare_shares, dshows, down, down_list, dare_wholes, dis_row, dis_room, dis_table, dMode_init, dis_mode, dis_push, dThing_init, dThing_pushes, dThing_modes, dThing_is_closed, dkept, dall_show, dis_part, dsteps_show, dturned_about, dfall, dFalls_init, dFalls_falls_by, dFalls_is_high, dFalls_is_for, dlets_by, d_law_cell_at, d_law_stream, d_law_divisor, d_law_lowest, d_law_plus, d_law_along, d_law_holds, d_law_lies, d_law_number, d_law_made, d_law_box, d_law_rows, d_law_point, d_law_top, d_law_both, d_law_drift, d_law_drift_mode, d_law_pushed, d_law_falling, d_law_fall_parts, d_law_behind, d_law_run, d_law_other, d_law_changed, d_law_spoilt, dlaw]
def fa : List He.Fa := [.glo "check_closed", .glo "Comes", .glo "is_whole", .glo "summed_by", .glo "widened", .glo "push_rows", .glo "standing", .glo "reach", .glo "added", .glo "are_shares", .glo "shows", .glo "own", .glo "own_list", .glo "are_wholes", .glo "is_row", .glo "is_room", .glo "is_table", .glo "Mode", .glo "is_mode", .glo "is_push", .glo "Thing", .glo "kept", .glo "all_show", .glo "is_part", .glo "steps_show", .glo "turned_about", .glo "fall", .glo "Falls", .glo "lets_by", .glo "_law_cell_at", .glo "_law_stream", .glo "_law_divisor", .glo "_law_lowest", .glo "_law_plus", .glo "_law_along", .glo "_law_holds", .glo "_law_lies", .glo "_law_number", .glo "_law_made", .glo "_law_box", .glo "_law_rows", .glo "_law_point", .glo "_law_top", .glo "_law_both", .glo "_law_drift", .glo "_law_drift_mode", .glo "_law_pushed", .glo "_law_falling", .glo "_law_fall_parts", .glo "_law_behind", .glo "_law_run", .glo "_law_other", .glo "_law_changed", .glo "_law_spoilt", .glo "law", .free "isinstance", .free "int", .free "bool", .free "list", .free "tuple", .free "len", .free "zip", .free "range", .free "enumerate", .free "sum", .free "max", .free "abs", .free "all", .free "any", .int "MOST_NUMBERS" 3, .int "MOST_PUSHES" 6, .int "MOST_MODES" 40, .cls "Comes", .mkr "Comes", .noat "Comes" "start", .noat "Comes" "goal", .noat "Comes" "turns", .cls "Mode", .mkr "Mode", .noat "Mode" "rows", .noat "Mode" "nexts", .noat "Mode" "steer", .noat "Mode" "push", .noat "Mode" "add", .noat "Mode" "divisor", .cls "Thing", .mkr "Thing", .noat "Thing" "many", .noat "Thing" "bounds", .noat "Thing" "ways", .meth "Thing" "pushes", .meth "Thing" "modes", .meth "Thing" "is_closed", .cls "Falls", .mkr "Falls", .noat "Falls" "room", .noat "Falls" "starts", .noat "Falls" "steps", .noat "Falls" "measure", .noat "Falls" "step", .noat "Falls" "top", .noat "Falls" "falls", .noat "Falls" "floors", .noat "Falls" "tops", .meth "Falls" "falls_by", .meth "Falls" "is_high", .meth "Falls" "is_for"]
def ex (K : PySem.W.Frag) : Bool := (["Mode", "Comes"] : List Str).all fun x => He.eqO (PySem.W.findIn K (.ref (He.ga K x)) "__class__") (some (some (.builtin "object.__class__"))) && (He.eqO (PySem.W.specialIn K (.builtin "object.__class__") "__get__") (some (some (.builtin "getset_descriptor.__get__"))) &&
  (decide (PySem.W.takesIn K (.builtin "object.__class__") = some true) && decide (PySem.W.mroIn K (He.ga K x) (.type "object") = some true)))
abbrev Al : Type := He.AlD × Bool
def obsY (g : Addr → Option Obj) : Al := (He.obsDG 4 fa fn g, ex (He.frG g (He.asD g 4)))
def hk : PySem.W.Hook where
  α := Al
  obs := fun s => obsY s.heap.get?
  val := fun _ => (He.valD fn, true)
  says := fun _ h => ∃ K : PySem.W.Frag, K.In h ∧ He.SaysD fa fn K ∧ ex K = true
  of := fun s _ e => ⟨_, He.frG_in, congrArg (fun z : Al => z.1) e, congrArg (fun z : Al => z.2) e⟩
  keeps := fun _ _ _ ⟨K, hK, c⟩ k => ⟨K, PySem.W.Frag.In.keeps hK k, c⟩
abbrev R : PySem.W.OpenRow := PySem.W.OpenLaw.row PySem.Challenge.rw_steadyhand_k54_whole_papers_of_falls_hol
def ob (s : PySem.W.SharedT) : Al := obsY (HandSHeadRun.getT s)
theorem ob_eq (s : PySem.W.SharedT) : ob s = hk.obs s.abs := by
  have e : HandSHeadRun.getT s = s.abs.heap.get? := funext fun a => HandSHeadRun.getT_eq s a
  unfold ob
  rw [e] <;> rfl

def loose1 : List Str := ["_wall", "SteadyError", "BadThing", "TooMany", "NotClosed", "Claim", "MOST_NUMBERS", "MOST_PUSHES", "MOST_MODES", "Paper", "check_closed", "Comes", "is_whole", "summed_by", "widened", "push_rows"]
def loose2 : List Str := ["standing", "reach", "added", "are_shares", "shows", "own", "own_list", "are_wholes", "is_row", "is_room", "is_table", "Mode", "is_mode", "is_push", "Thing", "kept"]
def loose3 : List Str := ["all_show", "is_part", "steps_show", "turned_about", "fall", "Falls", "lets_by", "_law_cell_at", "_law_stream", "_law_divisor", "_law_lowest", "_law_plus", "_law_along", "_law_holds", "_law_lies", "_law_number"]
def loose4 : List Str := ["_law_made", "_law_box", "_law_rows", "_law_point", "_law_top", "_law_both", "_law_drift", "_law_drift_mode", "_law_pushed", "_law_falling", "_law_fall_parts", "_law_behind", "_law_run", "_law_other", "_law_changed", "_law_spoilt"]
def loose : List Str := loose1 ++ (loose2 ++ (loose3 ++ (loose4)))
end Tx
end
section
set_option Elab.async false
set_option linter.all false
set_option maxRecDepth 100000
set_option maxHeartbeats 4000000
/-! Kr: further rules of the hand layer: zip of a list and a tuple, a tuple times 0 or 1, a list's item for op=, two lists of unlike lengths compared. -/
namespace Kr
open PySem PySem.Spec PyProof.Rows L2

/-! ### zip of lists and tuples in any mix (b: a list) -/
def Sq (b : Bool) (K : PySem.W.Frag) (H : Hp) (a : Addr) (xs : List V) : Prop := match b with
  | true => SqL K H a xs
  | false => SqT K H a xs
def IterAt (b : Bool) (h : Heap) (it a : Addr) (i : Nat) : Prop := match b with
  | true => h.IsListIter it a i
  | false => h.IsTupleIter it a i
def SrcAt (b : Bool) (h : Heap) (a : Addr) (its : Array Value) : Prop := match b with
  | true => h.IsList a its
  | false => h.IsTuple a its
theorem drawsB {prog : Program} {w : World} {A : Around} (hh : A.handled = none) (b : Bool) (it a : Addr) (hne : a ≠ it) (its : Array Value) :
    Draws prog w A it [it, a] its.size (fun i v => its[i]? = some v) (fun i h => IterAt b h it a i ∧ SrcAt b h a its) := by
  cases b with
  | true => exact Draws.list hh it a hne its
  | false => exact Draws.tuple hh it a hne its
theorem IterAt.at {b : Bool} {h h' : Heap} {it a : Addr} {i : Nat} (x : IterAt b h it a i) (k : ∀ o, h.get? it = some o → h'.get? it = some o) : IterAt b h' it a i := by
  cases b with
  | true => exact Heap.IsListIter.at x k
  | false => exact Heap.IsTupleIter.at x k
theorem IterAt.obj {b : Bool} {h : Heap} {it a : Addr} {i : Nat} (x : IterAt b h it a i) : ∃ o, h.get? it = some o ∧ ∀ v, o.data ≠ .cell v := by
  cases b with
  | true => obtain ⟨o, e, _, d⟩ := x; exact ⟨o, e, fun v q => by rw [d] at q; cases q⟩
  | false => obtain ⟨o, e, _, d⟩ := x; exact ⟨o, e, fun v q => by rw [d] at q; cases q⟩
theorem Sq.src {b : Bool} {X : Cx} {pins : List (Addr × Obj)} {σ : L2.St} {H : Hp} {s : Shared} {a : Addr} {xs : List V} (I : Inv X pins σ H s) (h : Sq b X.K H a xs) : ∃ its : List Value, Vals xs its ∧ SrcAt b s.heap a its.toArray ∧ a < s.heap.objs.size := by
  cases b with
  | true =>
    obtain ⟨its, rv, p, _⟩ := I.list h
    exact ⟨its, rv, p.isList, p.lt⟩
  | false =>
    obtain ⟨its, rv, p, _⟩ := I.tuple h
    obtain ⟨o, e, _⟩ := id p
    exact ⟨its, rv, p, Heap.lt_size e⟩
theorem Sq.inj {b : Bool} {X : Cx} {pins : List (Addr × Obj)} {σ : L2.St} {H : Hp} {s : Shared} {a : Addr} {xs ys : List V} (I : Inv X pins σ H s) (h : Sq b X.K H a xs) (h' : Sq b X.K H a ys) : xs = ys := by
  cases b with
  | true => exact I.list_inj h h'
  | false => exact I.tuple_inj h h'
def ItzB (K : PySem.W.Frag) (b c : Bool) (a d : Addr) : It :=
  ⟨fun i H => ∃ (xs ys : List V) (x y : V), Sq b K H a xs ∧ Sq c K H d ys ∧ xs[i]? = some x ∧ ys[i]? = some y,
    fun i H v H' => ∃ T x y, v = .ref T ∧ H T = none ∧ H' = upd H T (.tup [x, y]) ∧ (∀ xs, Sq b K H a xs → xs[i]? = some x) ∧ ∀ ys, Sq c K H d ys → ys[i]? = some y,
    fun i H => ∃ xs ys : List V, Sq b K H a xs ∧ Sq c K H d ys ∧ i ≤ xs.length ∧ i ≤ ys.length ∧ (i = xs.length ∨ i = ys.length)⟩
theorem turn_zipB {P : Program} {w : World} {K : PySem.W.Frag} {elts : List Expr} {kk : Nat} {tpos : Pos} {b c : Bool} {a d z TI TO i1 i2 : Addr} (S : ZipSep2 z TI TO i1 i2 [i1, a] [i2, d]) (na : a ≠ i1) (nd : d ≠ i2) :
    Turn P w K (.Tuple elts kk tpos) (ItzB K b c a d) [z, TI, TO, i1, i2] z (fun i h => IsZip h z TI TO .none ∧ IsTupOf2 h TI (.ref i1) (.ref i2) ∧ (∃ x y, IsTupOf2 h TO x y) ∧ IterAt b h i1 a i ∧ IterAt c h i2 d i) where
  mem := by simp
  obj := fun i h st e he => by
    obtain ⟨hz, hTI, ⟨x, y, hTO⟩, h1, h2⟩ := st
    have e' : e = z ∨ e = TI ∨ e = TO ∨ e = i1 ∨ e = i2 := by simpa using he
    rcases e' with q | q | q | q | q
    · rw [q]; exact ⟨_, hz, fun v q => nomatch q⟩
    · rw [q]; exact ⟨_, hTI, fun v q => nomatch q⟩
    · rw [q]; exact ⟨_, hTO, fun v q => nomatch q⟩
    · rw [q]; exact h1.obj
    · rw [q]; exact h2.obj
  keep := fun i h h' st k => by
    obtain ⟨hz, hTI, ⟨x, y, hTO⟩, h1, h2⟩ := st
    exact ⟨k z (by simp) _ hz, k TI (by simp) _ hTI, ⟨x, y, k TO (by simp) _ hTO⟩, h1.at fun o q => k i1 (by simp) o q, h2.at fun o q => k i2 (by simp) o q⟩
  item := by
    intro X hP hw hK hc i pins s σ H E I hf st hg
    subst hP hw hK
    obtain ⟨hz, hTI, ⟨x0, y0, hTO⟩, h1, h2⟩ := st
    obtain ⟨xs, ys, x, y, hqx, hqy, hx, hy⟩ := hg
    obtain ⟨its, rv, p, _⟩ := Sq.src I hqx
    obtain ⟨its2, rv2, p2, _⟩ := Sq.src I hqy
    obtain ⟨u, hu, ru⟩ := rv.get hx
    obtain ⟨u2, hu2, ru2⟩ := rv2.get hy
    have hzl : z < s.heap.objs.size := Heap.lt_size hz
    have D1 := drawsB (prog := X.prog) (w := X.w) (A := X.A.in1) (I.ok.hd hc) b i1 a na its.toArray
    have D2 := drawsB (prog := X.prog) (w := X.w) (A := X.A.in1) (I.ok.hd hc) c i2 d nd its2.toArray
    have hl1 : i < its.toArray.size := by
      rw [List.size_toArray]
      exact (List.getElem?_eq_some_iff.mp hu).1
    have hl2 : i < its2.toArray.size := by
      rw [List.size_toArray]
      exact (List.getElem?_eq_some_iff.mp hu2).1
    refine wpAny_pyNext_zipD2_item S D1 D2 hz hTI hTO ⟨h1, p⟩ ⟨h2, p2⟩ hl1 hl2 fun v1 v2 h' tk e1 e2 z' TO' h1' h2' hT hsz hk => ?_
    have ev1 : u = v1 := by
      have q : its.toArray[i]? = some u := by simpa using hu
      rw [q] at e1; exact Option.some.inj e1
    have ev2 : u2 = v2 := by
      have q : its2.toArray[i]? = some u2 := by simpa using hu2
      rw [q] at e2; exact Option.some.inj e2
    subst ev1 ev2
    refine ⟨_, rfl, wpAny_letOwnedTupleGo_zip (s := { s with heap := h', toks := tk }) z' fun h'' z'' sb => ?_⟩
    have hT2 : h''.get? s.heap.objs.size = some { cls := .type "tuple", data := .seq #[u, u2] } := (sb.2 _ (Nat.ne_of_gt hzl)).trans hT
    have new : ObjOk X.prog X.w (upd H s.heap.objs.size (.tup [x, y])) h'' s.heap.objs.size (.tup [x, y]) :=
      ⟨by show 2 ≤ sizeLine; decide, [u, u2], .cons ru (.cons ru2 .nil), ⟨_, hT2, rfl, _, rfl⟩⟩
    have I1 : Inv X pins σ (upd H s.heap.objs.size (.tup [x, y])) { s with heap := h'', toks := tk } :=
      I.turnedNew (t' := tk) (ch := [z, TI, TO, i1, i2]) (fun c o hb q => (sb.2 c (fun q' => hb (by simp [q']))).trans (hk c o (fun q' => hb (by simp [q'])) (fun q' => hb (by simp [q'])) (fun q' => hb (by simp [q'])) (fun q' => hb (by simp [q'])) q)) hf (Nat.le_refl _) new
    refine ⟨.ref s.heap.objs.size, _, I1, rfl, ⟨_, x, y, rfl, I.hok.fresh (Nat.le_refl _), rfl, fun l hl => by rw [Sq.inj I hl hqx]; exact hx, fun l hl => by rw [Sq.inj I hl hqy]; exact hy⟩, ⟨z'', ?_, ⟨u, u2, ?_⟩, ?_, ?_⟩, fun c hcm => ?_⟩
    · exact (sb.2 _ S.TIz).trans (hk _ _ S.TIz S.TITO S.TIi1 S.TIi2 hTI)
    · exact (sb.2 _ S.TOz).trans TO'
    · exact h1'.1.at fun o q => (sb.2 _ (Ne.symm S.zi1)).trans q
    · exact h2'.1.at fun o q => (sb.2 _ (Ne.symm S.zi2)).trans q
    · have hlt : c < s.heap.objs.size := by
        have e' : c = z ∨ c = TI ∨ c = TO ∨ c = i1 ∨ c = i2 := by simpa using hcm
        rcases e' with q | q | q | q | q
        · rw [q]; exact hzl
        · rw [q]; exact Heap.lt_size hTI
        · rw [q]; exact Heap.lt_size hTO
        · rw [q]; obtain ⟨_, e1, _⟩ := h1.obj; exact Heap.lt_size e1
        · rw [q]; obtain ⟨_, e2, _⟩ := h2.obj; exact Heap.lt_size e2
      rw [upd_ne (Nat.ne_of_lt hlt)]
      exact (hf c hcm).1
  done := by
    intro X hP hw hK hc i pins s σ H E I hf st hg
    subst hP hw hK
    obtain ⟨hz, hTI, ⟨x0, y0, hTO⟩, h1, h2⟩ := st
    obtain ⟨xs, ys, hqx, hqy, hl1, hl2, hend⟩ := hg
    obtain ⟨its, rv, p, _⟩ := Sq.src I hqx
    obtain ⟨its2, rv2, p2, _⟩ := Sq.src I hqy
    have l1 := rv.length
    have l2 := rv2.length
    have D1 := drawsB (prog := X.prog) (w := X.w) (A := X.A.in1) (I.ok.hd hc) b i1 a na its.toArray
    have D2 := drawsB (prog := X.prog) (w := X.w) (A := X.A.in1) (I.ok.hd hc) c i2 d nd its2.toArray
    exact wpAny_pyNext_zipD2_end S D1 D2 hz hTI hTO ⟨h1, p⟩ ⟨h2, p2⟩ (by rw [List.size_toArray]; omega) (by rw [List.size_toArray]; omega) (by rw [List.size_toArray, List.size_toArray]; omega) fun h' tk hk => ⟨rfl, I.turnedL (t' := tk) (ch := [z, TI, TO, i1, i2]) (fun c o hb q =>
      hk c o (fun q' => hb (by simp [q'])) (fun q' => hb (by simp [q'])) (fun q' => hb (by simp [q'])) (fun q' => hb (by simp [q'])) q) hf⟩
  self := fun A i s Q E st h => wpAny_pyIter_zip st.1 h
def iterObj (b : Bool) (a : Addr) : Obj := match b with
  | true => { cls := .type "list_iterator", data := .fields #[.ref a, .int 0 0] }
  | false => { cls := .type "tuple_iterator", data := .fields #[.ref a, .int 0 0] }
theorem begins_B (b : Bool) (a : Addr) (its : Array Value) : Begins (.ref a) (iterObj b a) fun h => SrcAt b h a its := by
  cases b with
  | true => exact begins_list a its
  | false => exact begins_tuple a its
theorem iter0 {b : Bool} {h : Heap} {it a : Addr} (e : h.get? it = some (iterObj b a)) : IterAt b h it a 0 := by
  cases b with
  | true => exact ⟨_, e, rfl, rfl⟩
  | false => exact ⟨_, e, rfl, rfl⟩
def iZipB (K : PySem.W.Frag) (ta : TA) : TI := fun σ H R => ta σ H fun vs H1 => ∃ (b c : Bool) (a d : Addr) (xs ys : List V), vs = [.ref a, .ref d] ∧ Sq b K H1 a xs ∧ Sq c K H1 d ys ∧ R (ItzB K b c a d) H1
theorem pi_zipB {X : Cx} {e e2 : Expr} {ta : TA} {p pos tpos : Pos} {elts : List Expr} {kk : Nat} (hg : Gl X "zip") (hm : X.mg "zip" = none) (ha : PA X [e, e2] ta)
    (hs : starEach [e, e2] X.env = (false, eval e X.env) :: starEach [e2] X.env := by rfl) (hpl : (backTo pos (starEach [e2] X.env)).any (·.1) = false := by rfl) :
    PI X (.Tuple elts kk tpos) (.Call (.Name "zip" p) [e, e2] [] pos) (iZipB X.K ta) := by
  refine ⟨fun pins s σ H R I h => ?_⟩
  refine Call_ (ld_blt I hg hm PyProof.Rows.boot_zip (PyProof.Rows.callWith_type1 (thn (ha.run pos pins s σ H _ I h) fun us s1 ⟨vs, H1, I1, r1, q1⟩ => ?_) hs hpl))
  obtain ⟨b, c, a, d, xs, ys, ex, hqx, hqy, q⟩ := q1
  subst ex
  cases r1 with
  | cons r rr =>
    cases rr with
    | cons r' rr =>
      cases rr
      cases r
      cases r'
      obtain ⟨its, rv, p1, la⟩ := Sq.src I1 hqx
      obtain ⟨its2, rv2, p2, ld⟩ := Sq.src I1 hqy
      refine zip_begins2 (begins_B b a its.toArray) (begins_B c d its2.toArray) p1 p2 fun h' hz hTI hTO h1 h2 hsz hk => wpAny_pyIter_zip hz ?_
      have I2 : Inv X pins σ H1 { s1 with heap := h' } := I1.kept (t' := s1.toks) hk
      have S : ZipSep2 (s1.heap.objs.size + 4) (s1.heap.objs.size + 2) (s1.heap.objs.size + 3) s1.heap.objs.size (s1.heap.objs.size + 1) [s1.heap.objs.size, a] [s1.heap.objs.size + 1, d] :=
        zip_sep2 (N := s1.heap.objs.size) (fp1 := [a]) (fp2 := [d]) (fun b hb => by rw [List.mem_singleton.mp hb]; exact la) (fun b hb => by rw [List.mem_singleton.mp hb]; exact ld)
      refine ⟨s1.heap.objs.size + 4, [s1.heap.objs.size + 4, s1.heap.objs.size + 2, s1.heap.objs.size + 3, s1.heap.objs.size, s1.heap.objs.size + 1], _, _, H1, rfl, I2, turn_zipB S (Nat.ne_of_lt la) (Nat.ne_of_lt (Nat.lt_succ_of_lt ld)), ⟨hz, hTI, ⟨_, _, hTO⟩, iter0 h1, iter0 h2⟩, fun c hcm => ?_, q⟩
      have e' : c = s1.heap.objs.size + 4 ∨ c = s1.heap.objs.size + 2 ∨ c = s1.heap.objs.size + 3 ∨ c = s1.heap.objs.size ∨ c = s1.heap.objs.size + 1 := by simpa using hcm
      have hle : s1.heap.objs.size ≤ c := by
        rcases e' with z | z | z | z | z
        · rw [z]; exact Nat.le_add_right _ _
        · rw [z]; exact Nat.le_add_right _ _
        · rw [z]; exact Nat.le_add_right _ _
        · rw [z]; exact Nat.le_refl _
        · rw [z]; exact Nat.le_add_right _ _
      exact I1.fpOk hle (I1.hok.fresh hle)

/-! ### a tuple times 0 or 1 -/
theorem tuple_mulZ (l : Addr) (items : Array Value) (n : Nat) (dd : Option Addr) (sl : Array (Option Value)) (u : Tok) (c1 : items.isEmpty = false) :
    Meets (Builtin.«tuple.__mul__» ⟨[.ref l, .int 0 u], []⟩) (fun _ R s => s.heap.get? l = some { cls := .type "tuple", dict := dd, data := .seq items n, slots := sl } ∧
      R (.ok (.ret (Value.ref s.heap.objs.size))) { s with heap := s.heap.push { cls := Value.type "tuple", data := Data.seq #[] }, toks := s.toks }) :=
  .of_wp fun prog w A R s h => by
    obtain ⟨hp, g, d, tk, os⟩ := s
    obtain ⟨hl, h⟩ := h
    have f1 := AutoSeq1.idx_int
    wp_walk using wpAny_loadPart' hl
    repeat (first
      | (refine wpAny_ite_false (decide_eq_false (by rw [c1]; decide)) ?_; wp_walk using wpAny_loadPart' hl)
      | (refine wpAny_ite_true (decide_eq_true (by rw [c1]; decide)) ?_; wp_walk using wpAny_loadPart' hl))
    exact ⟨_, rfl, h⟩
theorem tuple_mulO (l : Addr) (items : Array Value) (n : Nat) (dd : Option Addr) (sl : Array (Option Value)) (u : Tok) :
    Meets (Builtin.«tuple.__mul__» ⟨[.ref l, .int 1 u], []⟩) (fun _ R s => s.heap.get? l = some { cls := .type "tuple", dict := dd, data := .seq items n, slots := sl } ∧
      R (.ok (.ret (Value.ref l))) { s with heap := s.heap, toks := s.toks }) :=
  .of_wp fun prog w A R s h => by
    obtain ⟨hp, g, d, tk, os⟩ := s
    obtain ⟨hl, h⟩ := h
    have f1 := AutoSeq1.idx_int
    wp_walk using wpAny_loadPart' hl
    repeat (first
      | (refine wpAny_ite_true (decide_eq_true (by rw [Bool.or_eq_true]; exact Or.inr rfl)) ?_; wp_walk using wpAny_loadPart' hl))
    exact ⟨_, rfl, h⟩
def rRepA (K : PySem.W.Frag) : R2 := fun x y H Q => ∃ l k xs, x = .ref l ∧ y = .int k ∧ SqT K H l xs ∧ xs ≠ [] ∧ 0 ≤ k ∧ k ≤ 1000 ∧ xs.length ≤ 1000 ∧ (k = 1 → Q (.ref l) H) ∧ (k ≠ 1 → ∀ p, H p = none → Q (.ref p) (upd H p (.tup (List.replicate k.toNat xs).flatten)))
section
variable {X : Cx}
theorem op_repA : OpR X (binaryOp .Mult) (rRepA X.K) := by
  intro pins s σ H x y v u Q I rx ry h
  obtain ⟨l, k, xs, rfl, rfl, hT, hne, h0, h1, hz, q1, q2⟩ := h
  by_cases c2 : 2 ≤ k
  · exact op_repT pins s σ H _ _ v u Q I rx ry ⟨l, k, xs, rfl, rfl, hT, hne, c2, h1, hz, q2 (by omega)⟩
  cases rx
  obtain ⟨t, rfl⟩ := ry
  obtain ⟨its, r, ⟨⟨cls, dd, data, sl⟩, ho, hc, n, hd⟩, hs⟩ := I.tuple hT
  simp only at hc hd
  subst hc hd
  have hle : its.length = xs.length := r.length.symm
  have hn : its ≠ [] := fun e => hne (by
    rw [e] at hle
    exact List.eq_nil_of_length_eq_zero hle.symm)
  have hi : its.toArray.isEmpty = false := by
    cases its with
    | nil => exact absurd rfl hn
    | cons a b => rfl
  by_cases c0 : k = 0
  · subst c0
    refine wpAny_binaryOp_repeat_ref (T := "tuple") (U := "int") (by decide) ⟨_, ho, rfl⟩ (fun s' => typeIs_int s' 0 t) noFill_tuple_mul F.fills_int_mul F.slot_int_rmul repeat_tuple F.slot_int_index.lookup
      (call_meets F.slot_int_rmul (typeIs_int s 0 t) F.entry_int_rmul (F.args_int_rmul_2 _ _) (int_rmul_tuple 0 t l its.toArray n dd sl)
        ⟨ho, rfl, ⟨_, ho, rfl⟩, call_meets F.slot_tuple_mul ⟨_, ho, rfl⟩ F.entry_tuple_mul (F.args_tuple_mul_2 _ _) (tuple_mulZ l its.toArray n dd sl t hi) ⟨ho, ?_⟩⟩)
    refine ⟨.ref s.heap.objs.size, _, I.laid (t' := s.toks) (o := .tup (List.replicate (0 : Int).toNat xs).flatten) (fun b ob q => Heap.get?_push_of_some _ q) (Nat.le_refl _) ?_, rfl, q2 (by decide) _ (I.hok.fresh (Nat.le_refl _))⟩
    exact ⟨Nat.zero_le _, [], .nil, IsTup.new _ _⟩
  · have c1 : k = 1 := by omega
    subst c1
    refine wpAny_binaryOp_repeat_ref (T := "tuple") (U := "int") (by decide) ⟨_, ho, rfl⟩ (fun s' => typeIs_int s' 1 t) noFill_tuple_mul F.fills_int_mul F.slot_int_rmul repeat_tuple F.slot_int_index.lookup
      (call_meets F.slot_int_rmul (typeIs_int s 1 t) F.entry_int_rmul (F.args_int_rmul_2 _ _) (int_rmul_tuple 1 t l its.toArray n dd sl)
        ⟨ho, rfl, ⟨_, ho, rfl⟩, call_meets F.slot_tuple_mul ⟨_, ho, rfl⟩ F.entry_tuple_mul (F.args_tuple_mul_2 _ _) (tuple_mulO l its.toArray n dd sl t) ⟨ho, ?_⟩⟩)
    exact ⟨.ref l, H, I, rfl, q1 rfl⟩

/-! ### a list's item, for op= -/
def gIxL (K : PySem.W.Frag) : V → V → Hp → VK → Prop := fun o i H Q => ∃ p xs k v, o = .ref p ∧ i = .int k ∧ SqL K H p xs ∧ 0 ≤ k ∧ xs[k.toNat]? = some v ∧ Q v H
theorem get_list : PGet X (gIxL X.K) := by
  intro pins s σ H o i ov iv Q I ro ri h
  obtain ⟨p, xs, k, v, rfl, rfl, hq, h0, hv, q⟩ := h
  cases ro
  obtain ⟨t, rfl⟩ := ri
  obtain ⟨its, r, pl, hz⟩ := I.list hq
  obtain ⟨u, hu, ru⟩ := r.get hv
  have hn := line63
  have hlt := (List.getElem?_eq_some_iff.mp hv).1
  exact wpAny_getItem_list pl.isList h0 (by omega) (x := u) (by simpa using hu) ⟨v, H, I, ru, q⟩

/-! ### two lists of unlike lengths -/
def rEqLen (K : PySem.W.Frag) : R2 := fun x y H Q => ∃ a b xs ys, x = .ref a ∧ y = .ref b ∧ SqL K H a xs ∧ SqL K H b ys ∧ xs.length ≠ ys.length ∧ Q (.bl false) H
theorem op_eqLen (hu : X.A.units + 64 < cLine) : OpR X (compareOp .Eq) (rEqLen X.K) := by
  intro pins s σ H x y v u Q I rx ry h
  obtain ⟨a, b, xs, ys, rfl, rfl, ha, hb, hne, q⟩ := h
  cases rx
  cases ry
  obtain ⟨its, r, pl, _⟩ := I.list ha
  obtain ⟨its2, r2, pl2, _⟩ := I.list hb
  have l1 := r.length
  have l2 := r2.length
  exact SeqAt.RcAt.lists_lengths pl.isList pl2.isList (by
    rw [List.size_toArray, List.size_toArray]
    exact bne_iff_ne.mpr (by omega)) (by omega) _ _ _ _ ⟨.bl false, H, I, rfl, q⟩
end
end Kr
end
section
set_option Elab.async false
set_option linter.all false
set_option maxRecDepth 100000
set_option maxHeartbeats 4000000
set_option autoImplicit false
/-! Kt: a logic over data trees, with no heap in sight, upon the hand layer. -/
namespace Kt
open PySem L2

/-- a data tree -/
inductive D where
  | non | bl (b : Bool) | int (i : Int) | lst (xs : List D) | tup (xs : List D) | ins (C : Addr) (ns : List Str) (xs : List D) | scr (ns : List Int)

mutual
def DT (K : PySem.W.Frag) (G : Hp) : D → V → Prop
  | .non, v => v = .non
  | .bl b, v => v = .bl b
  | .int i, v => v = .int i
  | .lst ds, v => ∃ a vs, v = .ref a ∧ G a = some (.lst vs) ∧ DTs K G ds vs
  | .tup ds, v => ∃ a vs, v = .ref a ∧ G a = some (.tup vs) ∧ DTs K G ds vs
  | .ins C ns ds, v => ∃ a dx vs, v = .ref a ∧ G a = some (.ins C dx (ns.zip vs)) ∧ ns.length = ds.length ∧ DTs K G ds vs
  | .scr ns, v => ∃ a, v = .ref a ∧ SqL K G a (ns.map V.int)
def DTs (K : PySem.W.Frag) (G : Hp) : List D → List V → Prop
  | [], vs => vs = []
  | d :: ds, vs => ∃ v r, vs = v :: r ∧ DT K G d v ∧ DTs K G ds r
end

section
variable {K : PySem.W.Frag} {G G' : Hp}
mutual
theorem DT.mono (e : Same G G') : ∀ {d : D} {v : V}, DT K G d v → DT K G' d v
  | .non, v, h => h
  | .bl b, v, h => h
  | .int i, v, h => h
  | .lst ds, v, h => by
    unfold DT at h ⊢
    obtain ⟨a, vs, h1, h2, h3⟩ := h
    exact ⟨a, vs, h1, e _ _ h2, DTs.mono e h3⟩
  | .tup ds, v, h => by
    unfold DT at h ⊢
    obtain ⟨a, vs, h1, h2, h3⟩ := h
    exact ⟨a, vs, h1, e _ _ h2, DTs.mono e h3⟩
  | .ins C ns ds, v, h => by
    unfold DT at h ⊢
    obtain ⟨a, dx, vs, h1, h2, h3, h4⟩ := h
    exact ⟨a, dx, vs, h1, e _ _ h2, h3, DTs.mono e h4⟩
  | .scr ns, v, h => by
    unfold DT at h ⊢
    obtain ⟨a, h1, h2⟩ := h
    exact ⟨a, h1, e.seq h2⟩
theorem DTs.mono (e : Same G G') : ∀ {ds : List D} {vs : List V}, DTs K G ds vs → DTs K G' ds vs
  | [], vs, h => h
  | d :: ds, vs, h => by
    unfold DTs at h ⊢
    obtain ⟨v, r, h1, h2, h3⟩ := h
    exact ⟨v, r, h1, DT.mono e h2, DTs.mono e h3⟩
end
theorem dt_non {v : V} : DT K G .non v ↔ v = .non := by unfold DT; exact Iff.rfl
theorem dt_bl {b : Bool} {v : V} : DT K G (.bl b) v ↔ v = .bl b := by unfold DT; exact Iff.rfl
theorem dt_int {i : Int} {v : V} : DT K G (.int i) v ↔ v = .int i := by unfold DT; exact Iff.rfl
theorem dt_lst {ds : List D} {v : V} : DT K G (.lst ds) v ↔ ∃ a vs, v = .ref a ∧ G a = some (.lst vs) ∧ DTs K G ds vs := by
  conv => lhs; unfold DT
theorem dt_tup {ds : List D} {v : V} : DT K G (.tup ds) v ↔ ∃ a vs, v = .ref a ∧ G a = some (.tup vs) ∧ DTs K G ds vs := by
  conv => lhs; unfold DT
theorem dt_ins {C : Addr} {ns : List Str} {ds : List D} {v : V} : DT K G (.ins C ns ds) v ↔ ∃ a dx vs, v = .ref a ∧ G a = some (.ins C dx (ns.zip vs)) ∧ ns.length = ds.length ∧ DTs K G ds vs := by
  conv => lhs; unfold DT
theorem dt_scr {ns : List Int} {v : V} : DT K G (.scr ns) v ↔ ∃ a, v = .ref a ∧ SqL K G a (ns.map V.int) := by
  unfold DT; exact Iff.rfl
theorem dts_nil {vs : List V} : DTs K G [] vs ↔ vs = [] := by unfold DTs; exact Iff.rfl
theorem dts_cons {d : D} {ds : List D} {vs : List V} : DTs K G (d :: ds) vs ↔ ∃ v r, vs = v :: r ∧ DT K G d v ∧ DTs K G ds r := by
  conv => lhs; unfold DTs
theorem DTs.cons' {d : D} {ds : List D} {v : V} {vs : List V} (h : DT K G d v) (t : DTs K G ds vs) : DTs K G (d :: ds) (v :: vs) := dts_cons.mpr ⟨v, vs, rfl, h, t⟩
theorem DTs.nil' : DTs K G [] [] := dts_nil.mpr rfl
theorem DTs.length : ∀ {ds : List D} {vs : List V}, DTs K G ds vs → vs.length = ds.length
  | [], vs, h => by rw [dts_nil.mp h]; rfl
  | d :: ds, vs, h => by
    obtain ⟨v, r, rfl, _, h3⟩ := dts_cons.mp h
    rw [List.length_cons, List.length_cons, DTs.length h3]
theorem DTs.get : ∀ {ds : List D} {vs : List V} {i : Nat} {d : D}, DTs K G ds vs → ds[i]? = some d → ∃ v, vs[i]? = some v ∧ DT K G d v
  | [], _, _, _, _, e => by simp at e
  | x :: ds, vs, 0, d, h, e => by
    obtain ⟨v, r, rfl, h2, h3⟩ := dts_cons.mp h
    simp at e; subst e
    exact ⟨v, rfl, h2⟩
  | x :: ds, vs, i + 1, d, h, e => by
    obtain ⟨v, r, rfl, h2, h3⟩ := dts_cons.mp h
    obtain ⟨u, e1, e2⟩ := DTs.get (i := i) h3 (by simpa using e)
    exact ⟨u, by simpa using e1, e2⟩
theorem DTs.append : ∀ {ds es : List D} {vs us : List V}, DTs K G ds vs → DTs K G es us → DTs K G (ds ++ es) (vs ++ us)
  | [], es, vs, us, h, t => by rw [dts_nil.mp h]; exact t
  | d :: ds, es, vs, us, h, t => by
    obtain ⟨v, r, rfl, h2, h3⟩ := dts_cons.mp h
    exact DTs.cons' h2 (DTs.append h3 t)
theorem DTs.snoc {ds : List D} {vs : List V} {d : D} {v : V} (h : DTs K G ds vs) (t : DT K G d v) : DTs K G (ds ++ [d]) (vs ++ [v]) := h.append (DTs.cons' t .nil')
theorem DTs.drop : ∀ {ds : List D} {vs : List V} (n : Nat), DTs K G ds vs → DTs K G (ds.drop n) (vs.drop n)
  | [], vs, n, h => by rw [dts_nil.mp h, List.drop_nil, List.drop_nil]; exact .nil'
  | d :: ds, vs, 0, h => h
  | d :: ds, vs, n + 1, h => by
    obtain ⟨v, r, rfl, h2, h3⟩ := dts_cons.mp h
    exact DTs.drop n h3
theorem DTs.take : ∀ {ds : List D} {vs : List V} (n : Nat), DTs K G ds vs → DTs K G (ds.take n) (vs.take n)
  | [], vs, n, h => by rw [dts_nil.mp h, List.take_nil, List.take_nil]; exact .nil'
  | d :: ds, vs, 0, h => .nil'
  | d :: ds, vs, n + 1, h => by
    obtain ⟨v, r, rfl, h2, h3⟩ := dts_cons.mp h
    exact DTs.cons' h2 (DTs.take n h3)
theorem DTs.set : ∀ {ds : List D} {vs : List V} {d : D} {v : V} (n : Nat), DTs K G ds vs → DT K G d v → DTs K G (ds.set n d) (vs.set n v)
  | [], vs, _, _, n, h, _ => by rw [dts_nil.mp h]; exact .nil'
  | d :: ds, vs, _, _, 0, h, t => by
    obtain ⟨v, r, rfl, h2, h3⟩ := dts_cons.mp h
    exact DTs.cons' t h3
  | d :: ds, vs, _, _, n + 1, h, t => by
    obtain ⟨v, r, rfl, h2, h3⟩ := dts_cons.mp h
    exact DTs.cons' h2 (DTs.set n h3 t)
theorem DTs.rep {d : D} {v : V} (h : DT K G d v) : ∀ n : Nat, DTs K G (List.replicate n d) (List.replicate n v)
  | 0 => .nil'
  | n + 1 => DTs.cons' h (DTs.rep h n)
theorem DTs.reps {ds : List D} {vs : List V} (h : DTs K G ds vs) : ∀ n : Nat, DTs K G (List.replicate n ds).flatten (List.replicate n vs).flatten
  | 0 => .nil'
  | n + 1 => h.append (DTs.reps h n)
theorem dts_ints : ∀ {ns : List Int} {vs : List V}, DTs K G (ns.map D.int) vs ↔ vs = ns.map V.int
  | [], vs => dts_nil
  | n :: ns, vs => by
    show DTs K G (D.int n :: ns.map D.int) vs ↔ vs = V.int n :: ns.map V.int
    rw [dts_cons]
    constructor
    · rintro ⟨v, r, rfl, h1, h2⟩
      rw [dt_int.mp h1, dts_ints.mp h2]
    · intro h
      exact ⟨_, _, h, dt_int.mpr rfl, dts_ints.mpr rfl⟩
theorem dts_bls : ∀ {ns : List Bool} {vs : List V}, DTs K G (ns.map D.bl) vs ↔ vs = ns.map V.bl
  | [], vs => dts_nil
  | n :: ns, vs => by
    show DTs K G (D.bl n :: ns.map D.bl) vs ↔ vs = V.bl n :: ns.map V.bl
    rw [dts_cons]
    constructor
    · rintro ⟨v, r, rfl, h1, h2⟩
      rw [dt_bl.mp h1, dts_bls.mp h2]
    · intro h
      exact ⟨_, _, h, dt_bl.mpr rfl, dts_bls.mpr rfl⟩
end

/-! ### growing heaps: G what the trees know, H all -/
structure Grow (G H G' H' : Hp) : Prop where
  gg : Same G G'
  hh : Same H H'
  gh : Same G' H'
  fr : ∀ a, G a = none → H a ≠ none → G' a = none
section
variable {G H G1 H1 G2 H2 : Hp}
theorem Grow.refl (e : Same G H) : Grow G H G H := ⟨Same.refl _, Same.refl _, e, fun _ h _ => h⟩
theorem Grow.trans (a : Grow G H G1 H1) (b : Grow G1 H1 G2 H2) : Grow G H G2 H2 := ⟨a.gg.trans b.gg, a.hh.trans b.hh, b.gh, fun x h1 h2 => b.fr x (a.fr x h1 h2) (by
  cases e : H x with
  | none => exact absurd e h2
  | some o => rw [a.hh x o e]; exact fun z => nomatch z)⟩
theorem Same.out {H H' : Hp} (e : Same H H') {a : Addr} (h : H' a = none) : H a = none := e.free h
/-- an object laid at a fresh place, known to the trees -/
theorem Grow.new (e : Same G H) {p : Addr} {o : HO} (h : H p = none) : Grow G H (upd G p o) (upd H p o) := by
  have hg : G p = none := e.free h
  refine ⟨fun a u q => ?_, fun a u q => ?_, fun a u q => ?_, fun a h1 h2 => ?_⟩
  · rw [upd_ne (ne_of_none q hg)]; exact q
  · rw [upd_ne (ne_of_none q h)]; exact q
  · by_cases c : a = p
    · subst c; rw [upd_same] at q ⊢; exact q
    · rw [upd_ne c] at q ⊢; exact e a u q
  · have : a ≠ p := fun c => h2 (by rw [c]; exact h)
    rw [upd_ne this]; exact h1
/-- .. not known to the trees -/
theorem Grow.aside (e : Same G H) {p : Addr} {o : HO} (h : H p = none) : Grow G H G (upd H p o) := by
  refine ⟨Same.refl _, fun a u q => ?_, fun a u q => ?_, fun _ h1 _ => h1⟩
  · rw [upd_ne (ne_of_none q h)]; exact q
  · rw [upd_ne (ne_of_none (e a u q) h)]; exact e a u q
/-- an object that the trees do not know is changed: H keeps what a base knows -/
theorem Grow.mut (g : Grow G H G1 H1) {p : Addr} {o : HO} (h : H p = none) (h1 : G1 p = none) : Grow G H G1 (upd H1 p o) := by
  refine ⟨g.gg, fun a u q => ?_, fun a u q => ?_, g.fr⟩
  · rw [upd_ne (ne_of_none q h)]; exact g.hh a u q
  · rw [upd_ne (ne_of_none q h1)]; exact g.gh a u q
/-- an object that stands aside comes to be known -/
theorem Grow.know (g : Grow G H G1 H1) {p : Addr} {o : HO} (h : H p = none) (h1 : H1 p = some o) : Grow G H (upd G1 p o) H1 := by
  refine ⟨fun a u q => ?_, g.hh, fun a u q => ?_, fun a q1 q2 => ?_⟩
  · by_cases c : a = p
    · subst c
      have := g.gh a u (g.gg a u q)
      rw [h1] at this; cases this
      exact upd_same
    · rw [upd_ne c]; exact g.gg a u q
  · by_cases c : a = p
    · subst c; rw [upd_same] at q; cases q; exact h1
    · rw [upd_ne c] at q; exact g.gh a u q
  · have : a ≠ p := fun c => q2 (by rw [c]; exact h)
    rw [upd_ne this]; exact g.fr a q1 q2
theorem same_upd {p : Addr} {o : HO} (h : G1 p = none ∨ G1 p = some o) : Same G1 (upd G1 p o) := fun a u q => by
  by_cases c : a = p
  · subst c
    rcases h with h | h
    · rw [h] at q; cases q
    · rw [h] at q; cases q; exact upd_same
  · rw [upd_ne c]; exact q
end

/-! ### slots -/
inductive Sl where
  | p (d : D)
  /-- a list of the def's own, that no tree knows -/
  | o (a : Addr) (ds : List D)
  /-- an instance of the def's own -/
  | i (a C : Addr) (ns : List Str) (ds : List D)
def Sl.adr : Sl → Option Addr
  | .p _ => none
  | .o a _ => some a
  | .i a _ _ _ => some a
abbrev Rho := List (Option Sl)
def SlOk (K : PySem.W.Frag) (G H Hb : Hp) (s : Sl) (v : V) : Prop := match s with
  | .p d => DT K G d v
  | .o a ds => v = .ref a ∧ Hb a = none ∧ G a = none ∧ ∃ vs, H a = some (.lst vs) ∧ DTs K G ds vs
  | .i a C ns ds => v = .ref a ∧ Hb a = none ∧ G a = none ∧ ns.length = ds.length ∧ ∃ dx vs, H a = some (.ins C dx (ns.zip vs)) ∧ DTs K G ds vs
structure EnvOk (K : PySem.W.Frag) (G H Hb : Hp) (σ : St) (ρ : Rho) : Prop where
  sl : ∀ (i : Nat) (s : Sl), ρ[i]? = some (some s) → ∃ v, σ[i]? = some (some v) ∧ SlOk K G H Hb s v
  un : ∀ (i j : Nat) (s t : Sl) (a : Addr), ρ[i]? = some (some s) → ρ[j]? = some (some t) → s.adr = some a → t.adr = some a → i = j
  len : σ.length = ρ.length
section
variable {K : PySem.W.Frag} {G H G' H' Hb : Hp} {σ : St} {ρ : Rho}
theorem SlOk.grow {s : Sl} {v : V} (g : Grow G H G' H') (h : SlOk K G H Hb s v) : SlOk K G' H' Hb s v := by
  cases s with
  | p d => exact DT.mono g.gg h
  | o a ds =>
    obtain ⟨h1, h2, h3, vs, h4, h5⟩ := h
    exact ⟨h1, h2, g.fr a h3 (by rw [h4]; exact fun z => nomatch z), vs, g.hh _ _ h4, h5.mono g.gg⟩
  | i a C ns ds =>
    obtain ⟨h1, h2, h3, hl, dx, vs, h4, h5⟩ := h
    exact ⟨h1, h2, g.fr a h3 (by rw [h4]; exact fun z => nomatch z), hl, dx, vs, g.hh _ _ h4, h5.mono g.gg⟩
theorem EnvOk.grow (g : Grow G H G' H') (E : EnvOk K G H Hb σ ρ) : EnvOk K G' H' Hb σ ρ :=
  ⟨fun i s e => let ⟨v, h1, h2⟩ := E.sl i s e; ⟨v, h1, h2.grow g⟩, E.un, E.len⟩
theorem get_set {α : Type} {l : List α} {i j : Nat} {x y : α} (h : (l.set i x)[j]? = some y) : (j = i ∧ x = y ∧ i < l.length) ∨ (j ≠ i ∧ l[j]? = some y) := by
  by_cases c : j = i
  · subst c
    by_cases hl : j < l.length
    · rw [List.getElem?_set_self hl] at h
      exact .inl ⟨rfl, Option.some.inj h, hl⟩
    · rw [List.getElem?_eq_none (by simpa using hl)] at h; cases h
  · rw [List.getElem?_set_ne (Ne.symm c)] at h
    exact .inr ⟨c, h⟩
theorem EnvOk.set (E : EnvOk K G H Hb σ ρ) {i : Nat} {s : Sl} {v : V} (h : SlOk K G H Hb s v) (hu : ∀ a, s.adr = some a → ∀ (j : Nat) (t : Sl), j ≠ i → ρ[j]? = some (some t) → t.adr ≠ some a) : EnvOk K G H Hb (σ.set i (some v)) (ρ.set i (some s)) := by
  refine ⟨fun j t e => ?_, fun j k t u a e1 e2 h1 h2 => ?_, by rw [List.length_set, List.length_set]; exact E.len⟩
  · rcases get_set e with ⟨rfl, e2, hl⟩ | ⟨c, e2⟩
    · cases e2
      exact ⟨v, List.getElem?_set_self (by rw [E.len]; exact hl), h⟩
    · obtain ⟨u, h1, h2⟩ := E.sl j t e2
      exact ⟨u, by rw [List.getElem?_set_ne (Ne.symm c)]; exact h1, h2⟩
  · rcases get_set e1 with ⟨rfl, e3, _⟩ | ⟨c1, e3⟩ <;> rcases get_set e2 with ⟨rfl, e4, _⟩ | ⟨c2, e4⟩
    · rfl
    · cases e3
      exact absurd h2 (hu a h1 k u c2 e4)
    · cases e4
      exact absurd h1 (hu a h2 j t c1 e3)
    · exact E.un j k t u a e3 e4 h1 h2
theorem EnvOk.setP (E : EnvOk K G H Hb σ ρ) {i : Nat} {d : D} {v : V} (h : DT K G d v) : EnvOk K G H Hb (σ.set i (some v)) (ρ.set i (some (.p d))) := E.set (s := .p d) h fun a e => nomatch e
theorem SlOk.adr_known {s : Sl} {v : V} {a : Addr} (h : SlOk K G H Hb s v) (e : s.adr = some a) : H a ≠ none := by
  cases s with
  | p d => cases e
  | o b ds =>
    cases e
    obtain ⟨_, _, _, vs, h4, _⟩ := h
    rw [h4]; exact fun z => nomatch z
  | i b C ns ds =>
    cases e
    obtain ⟨_, _, _, _, dx, vs, h4, _⟩ := h
    rw [h4]; exact fun z => nomatch z
/-- a fresh list of one's own -/
theorem EnvOk.setO (E : EnvOk K G H Hb σ ρ) (g : Grow G H G' H') {i : Nat} {a : Addr} {ds : List D} {vs : List V} (hb : Same Hb H) (hn : H a = none) (hg : G' a = none) (ha : H' a = some (.lst vs)) (h : DTs K G' ds vs) :
    EnvOk K G' H' Hb (σ.set i (some (.ref a))) (ρ.set i (some (.o a ds))) := by
  refine (E.grow g).set (s := .o a ds) ⟨rfl, hb.free hn, hg, vs, ha, h⟩ fun b e j t _ ht q => ?_
  cases e
  obtain ⟨v, _, h2⟩ := E.sl j t ht
  exact h2.adr_known q hn
/-- the own object at a is changed -/
theorem EnvOk.upd (E : EnvOk K G H Hb σ ρ) {i : Nat} {s s' : Sl} {a : Addr} {o : HO} (hs : ρ[i]? = some (some s)) (ha : s.adr = some a) (ha' : s'.adr = some a) (h : ∀ v, σ[i]? = some (some v) → SlOk K G H Hb s v → SlOk K G (upd H a o) Hb s' v) (hg : G a = none) :
    EnvOk K G (upd H a o) Hb σ (ρ.set i (some s')) := by
  refine ⟨fun j t e => ?_, fun j k t u b e1 e2 h1 h2 => ?_, by rw [List.length_set]; exact E.len⟩
  · rcases get_set e with ⟨rfl, e2, hl⟩ | ⟨c, e2⟩
    · cases e2
      obtain ⟨v, h1, h2⟩ := E.sl j s hs
      exact ⟨v, h1, h v h1 h2⟩
    · obtain ⟨v, h1, h2⟩ := E.sl j t e2
      refine ⟨v, h1, ?_⟩
      have hne : ∀ b, t.adr = some b → b ≠ a := fun b hb z => c (E.un j i t s b e2 hs hb (by rw [z]; exact ha))
      cases t with
      | p d => exact h2
      | o b ds =>
        obtain ⟨q1, q2, q3, vs, q4, q5⟩ := h2
        exact ⟨q1, q2, q3, vs, by rw [upd_ne (hne b rfl)]; exact q4, q5⟩
      | i b C ns ds =>
        obtain ⟨q1, q2, q3, ql, dx, vs, q4, q5⟩ := h2
        exact ⟨q1, q2, q3, ql, dx, vs, by rw [upd_ne (hne b rfl)]; exact q4, q5⟩
  · rcases get_set e1 with ⟨rfl, e3, _⟩ | ⟨c1, e3⟩ <;> rcases get_set e2 with ⟨rfl, e4, _⟩ | ⟨c2, e4⟩
    · rfl
    · cases e3
      rw [ha'] at h1; cases h1
      exact E.un j k s u _ hs e4 ha h2
    · cases e4
      rw [ha'] at h2; cases h2
      exact E.un j k t s _ e3 hs h1 ha
    · exact E.un j k t u b e3 e4 h1 h2
/-- the own list in slot i becomes known -/
theorem EnvOk.freeze0 (E : EnvOk K G H Hb σ ρ) {i : Nat} {a : Addr} {ds : List D} (hs : ρ[i]? = some (some (.o a ds))) :
    ∃ vs, H a = some (.lst vs) ∧ Hb a = none ∧ G a = none ∧ EnvOk K (L2.upd G a (.lst vs)) H Hb σ (ρ.set i (some (.p (.lst ds)))) := by
  obtain ⟨v, h1, rfl, h2, h3, vs, h4, h5⟩ := E.sl i _ hs
  have sg : Same G (L2.upd G a (.lst vs)) := same_upd (.inl h3)
  refine ⟨vs, h4, h2, h3, fun j t e => ?_, fun j k t u b e1 e2 q1 q2 => ?_, by rw [List.length_set]; exact E.len⟩
  · rcases get_set e with ⟨rfl, e2, hl⟩ | ⟨c, e2⟩
    · cases e2
      exact ⟨_, h1, dt_lst.mpr ⟨a, vs, rfl, upd_same, h5.mono sg⟩⟩
    · obtain ⟨v, q1, q2⟩ := E.sl j t e2
      refine ⟨v, q1, ?_⟩
      have hne : ∀ b, t.adr = some b → b ≠ a := fun b hb z => c (E.un j i t _ b e2 hs hb (by rw [z]; rfl))
      cases t with
      | p d => exact DT.mono sg q2
      | o b ds' =>
        obtain ⟨w1, w2, w3, us, w4, w5⟩ := q2
        exact ⟨w1, w2, by rw [upd_ne (hne b rfl)]; exact w3, us, w4, w5.mono sg⟩
      | i b C ns ds' =>
        obtain ⟨w1, w2, w3, wl, dx, us, w4, w5⟩ := q2
        exact ⟨w1, w2, by rw [upd_ne (hne b rfl)]; exact w3, wl, dx, us, w4, w5.mono sg⟩
  · rcases get_set e1 with ⟨rfl, e3, _⟩ | ⟨c1, e3⟩ <;> rcases get_set e2 with ⟨rfl, e4, _⟩ | ⟨c2, e4⟩
    · rfl
    · cases e3; cases q1
    · cases e4; cases q2
    · exact E.un j k t u b e3 e4 q1 q2
theorem EnvOk.freeze {Gb : Hp} (g : Grow Gb Hb G H) (E : EnvOk K G H Hb σ ρ) {i : Nat} {a : Addr} {ds : List D} (hs : ρ[i]? = some (some (.o a ds))) :
    ∃ G', Grow Gb Hb G' H ∧ EnvOk K G' H Hb σ (ρ.set i (some (.p (.lst ds)))) := by
  obtain ⟨vs, h1, h2, h3, h4⟩ := E.freeze0 hs
  exact ⟨_, g.know h2 h1, h4⟩
theorem same_know (e : Same G H) {a : Addr} {o : HO} (h : H a = some o) : Same (L2.upd G a o) H := fun b u q => by
  by_cases c : b = a
  · subst c; rw [upd_same] at q; cases q; exact h
  · rw [upd_ne c] at q; exact e b u q
end
end Kt
end
section
set_option Elab.async false
set_option linter.all false
set_option maxRecDepth 100000
set_option maxHeartbeats 4000000
set_option autoImplicit false
/-! Ke: what an expression evaluates to, in trees. -/
namespace Kt
open PySem L2

section
variable (K : PySem.W.Frag)
/-- te gives a tree of which R is true -/
def EvR (te : TE) (ρ : Rho) (R : D → Prop) : Prop := ∀ (σ : L2.St) (G H Hb : Hp), Same G H → EnvOk K G H Hb σ ρ → ∀ Q : VK, (∀ v G' H' d, Grow G H G' H' → DT K G' d v → R d → Q v H') → te σ H Q
abbrev EvD (te : TE) (ρ : Rho) (d : D) : Prop := EvR K te ρ (fun x => x = d)
/-- te gives a new list, that no tree knows -/
def EvN (te : TE) (ρ : Rho) (R : List D → Prop) : Prop := ∀ (σ : L2.St) (G H Hb : Hp), Same G H → EnvOk K G H Hb σ ρ → ∀ Q : VK,
  (∀ a vs G' H' ds, Grow G H G' H' → H a = none → G' a = none → H' a = some (.lst vs) → DTs K G' ds vs → R ds → Q (.ref a) H') → te σ H Q
def EvT (tt : TT) (ρ : Rho) (R : Bool → Prop) : Prop := ∀ (σ : L2.St) (G H Hb : Hp), Same G H → EnvOk K G H Hb σ ρ → ∀ Q : Bool → Hp → Prop, (∀ b G' H', Grow G H G' H' → R b → Q b H') → tt σ H Q
def EvA (ta : TA) (ρ : Rho) (R : List D → Prop) : Prop := ∀ (σ : L2.St) (G H Hb : Hp), Same G H → EnvOk K G H Hb σ ρ → ∀ Q : List V → Hp → Prop, (∀ vs G' H' ds, Grow G H G' H' → DTs K G' ds vs → R ds → Q vs H') → ta σ H Q
def EvO (to : TO) (ρ : Rho) (o : Option Int) : Prop := ∀ (σ : L2.St) (G H Hb : Hp), Same G H → EnvOk K G H Hb σ ρ → ∀ Q : Option Int → Hp → Prop, (∀ G' H', Grow G H G' H' → Q o H') → to σ H Q
/-- what is walked: from G1 on it yields the trees ds -/
def WalkD (J : It) (G1 : Hp) (ds : List D) : Prop := ∀ G2 H2, Same G1 G2 → Same G2 H2 →
  (∀ (i : Nat) (d : D), ds[i]? = some d → J.go i H2 ∧ ∀ x H', J.yld i H2 x H' → ∃ G', Grow G2 H2 G' H' ∧ DT K G' d x) ∧ J.stop ds.length H2
def EvI (wi : TI) (ρ : Rho) (R : List D → Prop) : Prop := ∀ (σ : L2.St) (G H Hb : Hp), Same G H → EnvOk K G H Hb σ ρ → ∀ Q : It → Hp → Prop, (∀ J G' H' ds, Grow G H G' H' → WalkD K J G' ds → R ds → Q J H') → wi σ H Q
/-- an operation on values -/
def OpD (r : R2) (x y : D) (R : D → Prop) : Prop := ∀ (G H : Hp) (v u : V), Same G H → DT K G x v → DT K G y u → ∀ Q : VK, (∀ w G' H' d, Grow G H G' H' → DT K G' d w → R d → Q w H') → r v u H Q
def FnD (r : List V → Hp → VK → Prop) (xs : List D) (R : D → Prop) : Prop := ∀ (G H : Hp) (vs : List V), Same G H → DTs K G xs vs → ∀ Q : VK, (∀ w G' H' d, Grow G H G' H' → DT K G' d w → R d → Q w H') → r vs H Q
def FnN (r : List V → Hp → VK → Prop) (xs : List D) (R : List D → Prop) : Prop := ∀ (G H : Hp) (vs : List V), Same G H → DTs K G xs vs → ∀ Q : VK,
  (∀ a us G' H' ds, Grow G H G' H' → H a = none → G' a = none → H' a = some (.lst us) → DTs K G' ds us → R ds → Q (.ref a) H') → r vs H Q
def OpN (r : R2) (x y : D) (R : List D → Prop) : Prop := ∀ (G H : Hp) (v u : V), Same G H → DT K G x v → DT K G y u → ∀ Q : VK,
  (∀ a us G' H' ds, Grow G H G' H' → H a = none → G' a = none → H' a = some (.lst us) → DTs K G' ds us → R ds → Q (.ref a) H') → r v u H Q
end

section
variable {K : PySem.W.Frag} {ρ : Rho} {ta tb te : TE} {tt tu : TT} {R R' Ra Rb : D → Prop}
theorem EvR.mono (h : EvR K te ρ R) (k : ∀ d, R d → R' d) : EvR K te ρ R' := fun σ G H Hb e E Q q => h σ G H Hb e E Q fun v G' H' d g t r => q v G' H' d g t (k d r)
theorem EvT.mono {R R' : Bool → Prop} (h : EvT K tt ρ R) (k : ∀ d, R d → R' d) : EvT K tt ρ R' := fun σ G H Hb e E Q q => h σ G H Hb e E Q fun v G' H' g r => q v G' H' g (k v r)
theorem EvN.mono {R R' : List D → Prop} (h : EvN K te ρ R) (k : ∀ d, R d → R' d) : EvN K te ρ R' := fun σ G H Hb e E Q q => h σ G H Hb e E Q fun a vs G' H' ds g h1 h2 h3 t r => q a vs G' H' ds g h1 h2 h3 t (k ds r)
theorem EvA.mono {ta : TA} {R R' : List D → Prop} (h : EvA K ta ρ R) (k : ∀ d, R d → R' d) : EvA K ta ρ R' := fun σ G H Hb e E Q q => h σ G H Hb e E Q fun v G' H' d g t r => q v G' H' d g t (k d r)
theorem EvI.mono {wi : TI} {R R' : List D → Prop} (h : EvI K wi ρ R) (k : ∀ d, R d → R' d) : EvI K wi ρ R' := fun σ G H Hb e E Q q => h σ G H Hb e E Q fun v G' H' d g t r => q v G' H' d g t (k d r)
theorem EvN.toR {R : List D → Prop} (h : EvN K te ρ R) : EvR K te ρ (fun d => ∃ ds, d = .lst ds ∧ R ds) := fun σ G H Hb e E Q q =>
  h σ G H Hb e E Q fun a vs G' H' ds g h1 h2 h3 t r => q _ _ H' (.lst ds) (g.know h1 h3) (dt_lst.mpr ⟨a, vs, rfl, upd_same, t.mono (same_upd (.inl h2))⟩) ⟨ds, rfl, r⟩
theorem EvN.toD {xs : List D} (h : EvN K te ρ (fun ds => ds = xs)) : EvD K te ρ (.lst xs) := h.toR.mono fun d ⟨ds, e, e2⟩ => by rw [e, e2]
theorem ev_var {i : Nat} {d : D} (h : ρ[i]? = some (some (.p d))) : EvD K (tVar i) ρ d := fun σ G H Hb e E Q q => by
  obtain ⟨v, h1, h2⟩ := E.sl i _ h
  exact ⟨v, h1, q v G H d (.refl e) h2 rfl⟩
theorem ev_int {i : Int} : EvD K (tC (.int i)) ρ (.int i) := fun σ G H Hb e E Q q => q _ G H _ (.refl e) (dt_int.mpr rfl) rfl
theorem ev_bl {b : Bool} : EvD K (tC (.bl b)) ρ (.bl b) := fun σ G H Hb e E Q q => q _ G H _ (.refl e) (dt_bl.mpr rfl) rfl
theorem ev_non : EvD K (tC .non) ρ .non := fun σ G H Hb e E Q q => q _ G H _ (.refl e) (dt_non.mpr rfl) rfl
/-- a value that is told by a fact -/
theorem EvR.of {d : D} (h : EvD K te ρ d) (r : R d) : EvR K te ρ R := h.mono fun x e => by rw [e]; exact r
theorem ev_is {d d' : D} (h : EvD K te ρ d) (e : d = d') : EvD K te ρ d' := h.mono fun x z => by rw [z, e]

/-! ### the general rules -/
theorem ev_opR {r : R2} (ha : EvR K ta ρ Ra) (hb : EvR K tb ρ Rb) (ho : ∀ x y, Ra x → Rb y → OpD K r x y R) : EvR K (tOp r ta tb) ρ R := fun σ G H Hb e E Q q =>
  ha σ G H Hb e E _ fun v G1 H1 x g1 t1 r1 => hb σ G1 H1 Hb g1.gh (E.grow g1) _ fun u G2 H2 y g2 t2 r2 => ho x y r1 r2 G2 H2 v u g2.gh (t1.mono g2.gg) t2 Q fun w G3 H3 d g3 t3 r3 => q w G3 H3 d ((g1.trans g2).trans g3) t3 r3
theorem ev_opN {r : R2} {R : List D → Prop} (ha : EvR K ta ρ Ra) (hb : EvR K tb ρ Rb) (ho : ∀ x y, Ra x → Rb y → OpN K r x y R) : EvN K (tOp r ta tb) ρ R := fun σ G H Hb e E Q q =>
  ha σ G H Hb e E _ fun v G1 H1 x g1 t1 r1 => hb σ G1 H1 Hb g1.gh (E.grow g1) _ fun u G2 H2 y g2 t2 r2 => ho x y r1 r2 G2 H2 v u g2.gh (t1.mono g2.gg) t2 Q fun a us G3 H3 ds g3 n1 n2 n3 t3 r3 =>
    q a us G3 H3 ds ((g1.trans g2).trans g3) (Same.free (g1.trans g2).hh n1) n2 n3 t3 r3
theorem ev_un {r : V → Hp → VK → Prop} {d : D} {y : D} (ha : EvD K ta ρ d) (ho : ∀ (G H : Hp) (v : V), DT K G d v → ∀ Q : VK, (∀ w, DT K G y w → Q w H) → r v H Q) : EvD K (tUn r ta) ρ y := fun σ G H Hb e E Q q =>
  ha σ G H Hb e E _ fun v G1 H1 x g1 t1 r1 => by
    subst r1
    exact ho G1 H1 v t1 Q fun w t => q w G1 H1 y g1 t rfl
theorem ea_nil : EvA K tNil ρ (fun ds => ds = []) := fun σ G H Hb e E Q q => q [] G H [] (.refl e) .nil' rfl
theorem ea_cons {ta : TA} {Rs : List D → Prop} (h : EvR K te ρ R) (hr : EvA K ta ρ Rs) : EvA K (tCons te ta) ρ (fun ds => ∃ d r, ds = d :: r ∧ R d ∧ Rs r) := fun σ G H Hb e E Q q =>
  h σ G H Hb e E _ fun v G1 H1 x g1 t1 r1 => hr σ G1 H1 Hb g1.gh (E.grow g1) _ fun us G2 H2 ys g2 t2 r2 => q _ G2 H2 _ (g1.trans g2) (.cons' (t1.mono g2.gg) t2) ⟨x, ys, rfl, r1, r2⟩
theorem ea_consD {ta : TA} {d : D} {xs : List D} (h : EvD K te ρ d) (hr : EvA K ta ρ (fun ds => ds = xs)) : EvA K (tCons te ta) ρ (fun ds => ds = d :: xs) := (ea_cons h hr).mono fun ds ⟨x, r, e, e1, e2⟩ => by rw [e, e1, e2]
theorem ev_cb {r : List V → Hp → VK → Prop} {ta : TA} {Rs : List D → Prop} (h : EvA K ta ρ Rs) (hf : ∀ ds, Rs ds → FnD K r ds R) : EvR K (tCB r ta) ρ R := fun σ G H Hb e E Q q =>
  h σ G H Hb e E _ fun vs G1 H1 xs g1 t1 r1 => hf xs r1 G1 H1 vs g1.gh t1 Q fun w G2 H2 d g2 t2 r2 => q w G2 H2 d (g1.trans g2) t2 r2
theorem ev_cbN {r : List V → Hp → VK → Prop} {ta : TA} {Rs R : List D → Prop} (h : EvA K ta ρ Rs) (hf : ∀ ds, Rs ds → FnN K r ds R) : EvN K (tCB r ta) ρ R := fun σ G H Hb e E Q q =>
  h σ G H Hb e E _ fun vs G1 H1 xs g1 t1 r1 => hf xs r1 G1 H1 vs g1.gh t1 Q fun a us G3 H3 ds g3 n1 n2 n3 t3 r3 => q a us G3 H3 ds (g1.trans g3) (Same.free g1.hh n1) n2 n3 t3 r3
/-- under the own lists known: for what is told by a scalar -/
def Scal : D → Prop
  | .non => True
  | .bl _ => True
  | .int _ => True
  | _ => False
theorem Scal.any {d : D} {v : V} {G G' : Hp} (s : Scal d) (h : DT K G d v) : DT K G' d v := by
  cases d with
  | non => exact dt_non.mpr (dt_non.mp h)
  | bl b => exact dt_bl.mpr (dt_bl.mp h)
  | int i => exact dt_int.mpr (dt_int.mp h)
  | lst _ => exact s.elim
  | tup _ => exact s.elim
  | ins _ _ _ => exact s.elim
  | scr _ => exact s.elim
theorem ev_view {i : Nat} {a : Addr} {ds : List D} (hs : ρ[i]? = some (some (.o a ds))) (h : EvR K te (ρ.set i (some (.p (.lst ds)))) R) (hr : ∀ d, R d → Scal d) : EvR K te ρ R := fun σ G H Hb e E Q q => by
  obtain ⟨vs, h1, h2, h3, E'⟩ := E.freeze0 hs
  refine h σ _ H Hb (same_know e h1) E' Q fun v G' H' d g t r => ?_
  exact q v G H' d ⟨Same.refl _, g.hh, e.trans g.hh, fun _ z _ => z⟩ ((hr d r).any t) r
theorem et_view {R : Bool → Prop} {i : Nat} {a : Addr} {ds : List D} (hs : ρ[i]? = some (some (.o a ds))) (h : EvT K tt (ρ.set i (some (.p (.lst ds)))) R) : EvT K tt ρ R := fun σ G H Hb e E Q q => by
  obtain ⟨vs, h1, h2, h3, E'⟩ := E.freeze0 hs
  refine h σ _ H Hb (same_know e h1) E' Q fun b G' H' g r => ?_
  exact q b G H' ⟨Same.refl _, g.hh, e.trans g.hh, fun _ z _ => z⟩ r
end
end Kt
end
section
set_option Elab.async false
set_option linter.all false
set_option maxRecDepth 100000
set_option maxHeartbeats 4000000
set_option autoImplicit false
/-! Ko: operators, tests, subscripts, built-in calls, displays, in trees. -/
namespace Kt
open PySem L2 Kr

/-! ### rules of more than one kind -/
def rAddX (K : PySem.W.Frag) : R2 := fun x y H Q => (rI0 fun i j => .int (i + j)) x y H Q ∨ (rCat x y H Q ∨ rCatA K x y H Q)
def rMulX (K : PySem.W.Frag) : R2 := fun x y H Q => (rI CMulW fun i j => .int (i * j)) x y H Q ∨ (rRep x y H Q ∨ rRepA K x y H Q)
def rEqX (K : PySem.W.Frag) : R2 := fun x y H Q => rEq x y H Q ∨ (rEqD K x y H Q ∨ rEqLen K x y H Q)
def rNeX (K : PySem.W.Frag) : R2 := fun x y H Q => rNe x y H Q ∨ rNeD K x y H Q
def rIxX (K : PySem.W.Frag) : R2 := fun x y H Q => rIxL K x y H Q ∨ rIxT K x y H Q
def rSlX (K : PySem.W.Frag) : V → Option Int → Option Int → Hp → VK → Prop := fun x lo hi H Q => rSlL K x lo hi H Q ∨ rSlA K x lo hi H Q
section
variable {X : Cx}
theorem op_addX : OpR X (binaryOp .Add) (rAddX X.K) := op_add.or (op_cat.or op_catA)
theorem op_mulX : OpR X (binaryOp .Mult) (rMulX X.K) := op_mulW.or (op_rep.or op_repA)
theorem op_eqX (hu : X.A.units + 64 < cLine) : OpR X (compareOp .Eq) (rEqX X.K) := op_eq.or ((op_eqD hu).or (op_eqLen hu))
theorem op_neX (hu : X.A.units + 64 < cLine) : OpR X (compareOp .NotEq) (rNeX X.K) := op_ne.or (op_neD hu)
theorem ix_X : IxR X (rIxX X.K) := ix_list.or ix_tup
theorem sl_X : SlR X (rSlX X.K) := sl_list.or sl_tupA
end

section
variable {K : PySem.W.Frag} {ρ : Rho} {ta tb tc te : TE} {tt tu : TT} {R R' Ra Rb : D → Prop}
theorem sz5 {n : Nat} (h : n ≤ 100000) : n ≤ sizeLine := Nat.le_trans h (by decide)

/-! ### ints -/
theorem od_I0 {g : Int → Int → V} {e : D} {i j : Int} (hg : ∀ G, DT K G e (g i j)) : OpD K (rI0 g) (.int i) (.int j) (fun d => d = e) := fun G H v u se h1 h2 Q q => by
  rw [dt_int.mp h1, dt_int.mp h2]
  exact ⟨i, j, rfl, rfl, q _ G H e (.refl se) (hg G) rfl⟩
theorem od_I {C : Int → Int → Prop} {g : Int → Int → V} {e : D} {i j : Int} (hc : C i j) (hg : ∀ G, DT K G e (g i j)) : OpD K (rI C g) (.int i) (.int j) (fun d => d = e) := fun G H v u se h1 h2 Q q => by
  rw [dt_int.mp h1, dt_int.mp h2]
  exact ⟨i, j, rfl, rfl, hc, q _ G H e (.refl se) (hg G) rfl⟩
theorem ev_op {r : R2} {x y : D} (ha : EvD K ta ρ x) (hb : EvD K tb ρ y) (ho : OpD K r x y R) : EvR K (tOp r ta tb) ρ R := ev_opR ha hb fun a b ea eb => by rw [ea, eb]; exact ho
theorem ev_oN {r : R2} {x y : D} {R : List D → Prop} (ha : EvD K ta ρ x) (hb : EvD K tb ρ y) (ho : OpN K r x y R) : EvN K (tOp r ta tb) ρ R := ev_opN ha hb fun a b ea eb => by rw [ea, eb]; exact ho
theorem OpD.l {r s : R2} {x y : D} (h : OpD K r x y R) : OpD K (fun x y H Q => r x y H Q ∨ s x y H Q) x y R := fun G H v u se h1 h2 Q q => .inl (h G H v u se h1 h2 Q q)
theorem OpD.r {r s : R2} {x y : D} (h : OpD K s x y R) : OpD K (fun x y H Q => r x y H Q ∨ s x y H Q) x y R := fun G H v u se h1 h2 Q q => .inr (h G H v u se h1 h2 Q q)
theorem OpN.l {r s : R2} {x y : D} {R : List D → Prop} (h : OpN K r x y R) : OpN K (fun x y H Q => r x y H Q ∨ s x y H Q) x y R := fun G H v u se h1 h2 Q q => .inl (h G H v u se h1 h2 Q q)
theorem OpN.r {r s : R2} {x y : D} {R : List D → Prop} (h : OpN K s x y R) : OpN K (fun x y H Q => r x y H Q ∨ s x y H Q) x y R := fun G H v u se h1 h2 Q q => .inr (h G H v u se h1 h2 Q q)
variable {i j : Int}
theorem ev_add (ha : EvD K ta ρ (.int i)) (hb : EvD K tb ρ (.int j)) : EvD K (tOp (rAddX K) ta tb) ρ (.int (i + j)) := ev_op ha hb (OpD.l (od_I0 fun G => dt_int.mpr rfl))
theorem ev_sub (ha : EvD K ta ρ (.int i)) (hb : EvD K tb ρ (.int j)) : EvD K (tOp (rI0 fun i j => .int (i - j)) ta tb) ρ (.int (i - j)) := ev_op ha hb (od_I0 fun G => dt_int.mpr rfl)
theorem ev_mulC (hc : CMulW i j) (ha : EvD K ta ρ (.int i)) (hb : EvD K tb ρ (.int j)) : EvD K (tOp (rMulX K) ta tb) ρ (.int (i * j)) := ev_op ha hb (OpD.l (od_I hc fun G => dt_int.mpr rfl))
theorem ev_div (h0 : 0 < j) (h1 : j.natAbs.log2 < 9000) (ha : EvD K ta ρ (.int i)) (hb : EvD K tb ρ (.int j)) : EvD K (tOp (rI CDivW fun i j => .int (i / j)) ta tb) ρ (.int (i / j)) := ev_op ha hb (od_I ⟨h0, h1⟩ fun G => dt_int.mpr rfl)
theorem ev_mod (h0 : 0 < j) (ha : EvD K ta ρ (.int i)) (hb : EvD K tb ρ (.int j)) : EvD K (tOp (rI (fun _ j => 0 < j) fun i j => .int (i % j)) ta tb) ρ (.int (i % j)) := ev_op ha hb (od_I h0 fun G => dt_int.mpr rfl)
theorem ev_pow (hc : CPow i j) (ha : EvD K ta ρ (.int i)) (hb : EvD K tb ρ (.int j)) : EvD K (tOp (rI CPow fun i j => .int (i ^ j.toNat)) ta tb) ρ (.int (i ^ j.toNat)) := ev_op ha hb (od_I hc fun G => dt_int.mpr rfl)
theorem ev_neg (ha : EvD K ta ρ (.int i)) : EvD K (tUn (rU fun i => .int (-i)) ta) ρ (.int (-i)) := ev_un ha fun G H v h Q q => by
  rw [dt_int.mp h]
  exact ⟨i, rfl, q _ (dt_int.mpr rfl)⟩
theorem ev_lt (ha : EvD K ta ρ (.int i)) (hb : EvD K tb ρ (.int j)) : EvD K (tOp (rI0 fun i j => .bl (decide (i < j))) ta tb) ρ (.bl (decide (i < j))) := ev_op ha hb (od_I0 fun G => dt_bl.mpr rfl)
theorem ev_le (ha : EvD K ta ρ (.int i)) (hb : EvD K tb ρ (.int j)) : EvD K (tOp (rI0 fun i j => .bl (decide (i ≤ j))) ta tb) ρ (.bl (decide (i ≤ j))) := ev_op ha hb (od_I0 fun G => dt_bl.mpr rfl)
theorem ev_gt (ha : EvD K ta ρ (.int i)) (hb : EvD K tb ρ (.int j)) : EvD K (tOp (rI0 fun i j => .bl (decide (j < i))) ta tb) ρ (.bl (decide (j < i))) := ev_op ha hb (od_I0 fun G => dt_bl.mpr rfl)
theorem ev_ge (ha : EvD K ta ρ (.int i)) (hb : EvD K tb ρ (.int j)) : EvD K (tOp (rI0 fun i j => .bl (decide (j ≤ i))) ta tb) ρ (.bl (decide (j ≤ i))) := ev_op ha hb (od_I0 fun G => dt_bl.mpr rfl)
theorem ev_eqI (ha : EvD K ta ρ (.int i)) (hb : EvD K tb ρ (.int j)) : EvD K (tOp (rEqX K) ta tb) ρ (.bl (decide (i = j))) := ev_op ha hb (OpD.l fun G H v u se h1 h2 Q q => by
  rw [dt_int.mp h1, dt_int.mp h2]
  refine ⟨rfl, ?_⟩
  have e : decide (V.int i = V.int j) = decide (i = j) := by simp
  rw [e]
  exact q _ G H _ (.refl se) (dt_bl.mpr rfl) rfl)
theorem ev_neI (ha : EvD K ta ρ (.int i)) (hb : EvD K tb ρ (.int j)) : EvD K (tOp (rNeX K) ta tb) ρ (.bl (!decide (i = j))) := ev_op ha hb (OpD.l fun G H v u se h1 h2 Q q => by
  rw [dt_int.mp h1, dt_int.mp h2]
  refine ⟨rfl, ?_⟩
  have e : decide (V.int i = V.int j) = decide (i = j) := by simp
  rw [e]
  exact q _ G H _ (.refl se) (dt_bl.mpr rfl) rfl)

/-! ### lists and tuples joined, repeated -/
theorem ev_cat {xs ys : List D} (hz : xs.length + ys.length ≤ 100000) (ha : EvD K ta ρ (.lst xs)) (hb : EvD K tb ρ (.lst ys)) : EvN K (tOp (rAddX K) ta tb) ρ (fun ds => ds = xs ++ ys) := ev_oN ha hb (OpN.r (OpN.l fun G H v u se h1 h2 Q q => by
  obtain ⟨a, vs, rfl, g1, t1⟩ := dt_lst.mp h1
  obtain ⟨b, us, rfl, g2, t2⟩ := dt_lst.mp h2
  have l1 := t1.length
  have l2 := t2.length
  refine ⟨a, b, vs, us, rfl, rfl, se _ _ g1, se _ _ g2, sz5 (by omega), fun p hp => ?_⟩
  exact q p _ G _ _ (.aside se hp) hp (Same.free se hp) upd_same (t1.append t2) rfl))
theorem ev_catT {xs ys : List D} (hz : xs.length + ys.length ≤ 100000) (ha : EvD K ta ρ (.tup xs)) (hb : EvD K tb ρ (.tup ys)) : EvD K (tOp (rAddX K) ta tb) ρ (.tup (xs ++ ys)) := ev_op ha hb (OpD.r (OpD.r fun G H v u se h1 h2 Q q => by
  obtain ⟨a, vs, rfl, g1, t1⟩ := dt_tup.mp h1
  obtain ⟨b, us, rfl, g2, t2⟩ := dt_tup.mp h2
  have l1 := t1.length
  have l2 := t2.length
  refine ⟨a, b, vs, us, rfl, rfl, SqT.of (se _ _ g1), SqT.of (se _ _ g2), sz5 (by omega), fun e => ?_, fun _ e => ?_, fun _ _ p hp => ?_⟩
  · have : xs = [] := List.eq_nil_of_length_eq_zero (by rw [← l1, e]; rfl)
    subst this
    exact q _ G H _ (.refl se) h2 rfl
  · have : ys = [] := List.eq_nil_of_length_eq_zero (by rw [← l2, e]; rfl)
    subst this
    exact q _ G H _ (.refl se) (by rw [List.append_nil]; exact h1) rfl
  · have hg := Same.free se hp
    exact q _ _ _ _ (.new se hp) (dt_tup.mpr ⟨p, _, rfl, upd_same, (t1.append t2).mono (same_upd (.inl hg))⟩) rfl))
theorem ev_rep {xs : List D} {k : Int} (h0 : 0 ≤ k) (h1 : k ≤ 1000) (hz : xs.length ≤ 100) (ha : EvD K ta ρ (.lst xs)) (hb : EvD K tb ρ (.int k)) : EvN K (tOp (rMulX K) ta tb) ρ (fun ds => ds = (List.replicate k.toNat xs).flatten) := ev_oN ha hb (OpN.r (OpN.l fun G H v u se h1 h2 Q q => by
  obtain ⟨a, vs, rfl, g1, t1⟩ := dt_lst.mp h1
  rw [dt_int.mp h2]
  have l1 := t1.length
  have hm : vs.length * k.toNat ≤ 100 * 1000 := Nat.mul_le_mul (by omega) (by omega)
  refine ⟨a, k, vs, rfl, rfl, se _ _ g1, by omega, by omega, sz5 hm, fun p hp => ?_⟩
  exact q p _ G _ _ (.aside se hp) hp (Same.free se hp) upd_same (t1.reps _) rfl))
theorem ev_repT {xs : List D} {k : Int} (h0 : 0 ≤ k) (h1 : k ≤ 1000) (hz : xs.length ≤ 100) (hn : xs ≠ []) (ha : EvD K ta ρ (.tup xs)) (hb : EvD K tb ρ (.int k)) : EvD K (tOp (rMulX K) ta tb) ρ (.tup (List.replicate k.toNat xs).flatten) := ev_op ha hb (OpD.r (OpD.r fun G H v u se w1 w2 Q q => by
  obtain ⟨a, vs, rfl, g1, t1⟩ := dt_tup.mp w1
  rw [dt_int.mp w2]
  have l1 := t1.length
  refine ⟨a, k, vs, rfl, rfl, SqT.of (se _ _ g1), fun e => hn (List.eq_nil_of_length_eq_zero (by rw [← l1, e]; rfl)), h0, by omega, by omega, fun e => ?_, fun _ p hp => ?_⟩
  · subst e
    have e2 : (List.replicate (1 : Int).toNat xs).flatten = xs := by simp
    exact q _ G H _ (.refl se) (by rw [e2]; exact w1) rfl
  · have hg := Same.free se hp
    exact q _ _ _ _ (.new se hp) (dt_tup.mpr ⟨p, _, rfl, upd_same, (t1.reps _).mono (same_upd (.inl hg))⟩) rfl))

/-! ### equality of ints' lists and tuples -/
theorem dpAll_ints : ∀ (ns : List Int) (H : Hp), DpAll K H (ns.map V.int) (ns.map PyData.int)
  | [], _ => .nil
  | n :: ns, H => .cons (.int n) (dpAll_ints ns H)
theorem canLay_ints : ∀ ns : List Int, PyData.canLayAll0 (ns.map PyData.int) = true
  | [] => rfl
  | n :: ns => by
    show (PyData.canLay0 (.int n) && PyData.canLayAll0 (ns.map PyData.int)) = true
    rw [canLay_ints ns] <;> rfl
theorem depth_ints : ∀ ns : List Int, PyData.depthAll (ns.map PyData.int) ≤ 1
  | [] => Nat.zero_le _
  | n :: ns => by
    show max (PyData.depth (.int n)) (PyData.depthAll (ns.map PyData.int)) ≤ 1
    exact Nat.max_le.mpr ⟨by simp [PyData.depth], depth_ints ns⟩
theorem shaped_lst (ns : List Int) : SeqAt.shaped (.list (ns.map PyData.int)) = true := by
  unfold SeqAt.shaped
  rw [Bool.and_eq_true]
  refine ⟨?_, decide_eq_true ?_⟩
  · show PyData.canLayAll0 _ = true
    exact canLay_ints ns
  · show PyData.depthAll _ + 1 ≤ 64
    have := depth_ints ns
    omega
theorem shaped_tup (ns : List Int) : SeqAt.shaped (.tuple (ns.map PyData.int)) = true := by
  unfold SeqAt.shaped
  rw [Bool.and_eq_true]
  refine ⟨?_, decide_eq_true ?_⟩
  · show PyData.canLayAll0 _ = true
    exact canLay_ints ns
  · show PyData.depthAll _ + 1 ≤ 64
    have := depth_ints ns
    omega
theorem eqv_ints : ∀ ns ms : List Int, PyData.eqvAll (ns.map PyData.int) (ms.map PyData.int) = decide (ns = ms)
  | [], [] => by simp [PyData.eqvAll]
  | [], m :: ms => by simp [PyData.eqvAll]
  | n :: ns, [] => by simp [PyData.eqvAll]
  | n :: ns, m :: ms => by
    show (PyData.eqv (.int n) (.int m) && PyData.eqvAll (ns.map PyData.int) (ms.map PyData.int)) = _
    rw [eqv_ints ns ms]
    have e : PyData.eqv (.int n) (.int m) = decide (n = m) := by
      simp [PyData.eqv]
      by_cases c : n = m
      · subst c; simp
      · simp [c]
    rw [e]
    by_cases c : n = m
    · subst c; simp
    · simp [c]
theorem ev_eqL {ns ms : List Int} (ha : EvD K ta ρ (.lst (ns.map D.int))) (hb : EvD K tb ρ (.lst (ms.map D.int))) : EvD K (tOp (rEqX K) ta tb) ρ (.bl (decide (ns = ms))) := ev_op ha hb (OpD.r (OpD.l fun G H v u se h1 h2 Q q => by
  obtain ⟨a, vs, rfl, g1, t1⟩ := dt_lst.mp h1
  obtain ⟨b, us, rfl, g2, t2⟩ := dt_lst.mp h2
  rw [dts_ints.mp t1] at g1
  rw [dts_ints.mp t2] at g2
  refine ⟨.list (ns.map PyData.int), .list (ms.map PyData.int), .lst (SqL.of (se _ _ g1)) (dpAll_ints _ _), .lst (SqL.of (se _ _ g2)) (dpAll_ints _ _), shaped_lst _, shaped_lst _, ?_⟩
  have e : PyData.eqv (.list (ns.map PyData.int)) (.list (ms.map PyData.int)) = decide (ns = ms) := by
    simp only [PyData.eqv]
    exact eqv_ints ns ms
  rw [e]
  exact q _ G H _ (.refl se) (dt_bl.mpr rfl) rfl))
theorem ev_neT {ns ms : List Int} (ha : EvD K ta ρ (.tup (ns.map D.int))) (hb : EvD K tb ρ (.tup (ms.map D.int))) : EvD K (tOp (rNeX K) ta tb) ρ (.bl (!decide (ns = ms))) := ev_op ha hb (OpD.r fun G H v u se h1 h2 Q q => by
  obtain ⟨a, vs, rfl, g1, t1⟩ := dt_tup.mp h1
  obtain ⟨b, us, rfl, g2, t2⟩ := dt_tup.mp h2
  rw [dts_ints.mp t1] at g1
  rw [dts_ints.mp t2] at g2
  refine ⟨.tuple (ns.map PyData.int), .tuple (ms.map PyData.int), .tup (SqT.of (se _ _ g1)) (dpAll_ints _ _), .tup (SqT.of (se _ _ g2)) (dpAll_ints _ _), shaped_tup _, shaped_tup _, ?_⟩
  have e : PyData.eqv (.tuple (ns.map PyData.int)) (.tuple (ms.map PyData.int)) = decide (ns = ms) := by
    simp only [PyData.eqv]
    exact eqv_ints ns ms
  rw [e]
  exact q _ G H _ (.refl se) (dt_bl.mpr rfl) rfl)
/-- xs == [] -/
theorem ev_eqNil {xs : List D} (ha : EvD K ta ρ (.lst xs)) (hb : EvD K tb ρ (.lst [])) : EvD K (tOp (rEqX K) ta tb) ρ (.bl xs.isEmpty) := by
  cases xs with
  | nil => exact ev_is (ev_eqL (ns := []) (ms := []) ha hb) rfl
  | cons x xs =>
    exact ev_op ha hb (OpD.r (OpD.r fun G H v u se h1 h2 Q q => by
      obtain ⟨a, vs, rfl, g1, t1⟩ := dt_lst.mp h1
      obtain ⟨b, us, rfl, g2, t2⟩ := dt_lst.mp h2
      refine ⟨a, b, vs, us, rfl, rfl, SqL.of (se _ _ g1), SqL.of (se _ _ g2), ?_, q _ G H _ (.refl se) (dt_bl.mpr rfl) rfl⟩
      rw [t1.length, t2.length]
      exact Nat.succ_ne_zero _))

/-! ### tests, and or not -/
variable {b c : Bool}
theorem et_test {R : Bool → Prop} (h : EvR K te ρ (fun d => ∃ b, d = .bl b ∧ R b)) : EvT K (tTest te) ρ R := fun σ G H Hb e E Q q => h σ G H Hb e E _ fun v G' H' d g t ⟨b, e1, r⟩ => by
  subst e1
  exact ⟨b, dt_bl.mp t, q b G' H' g r⟩
theorem et_B {R : Bool → Prop} (h : EvR K te ρ (fun d => ∃ b, d = .bl b ∧ R b)) : EvT K (tB te) ρ R := fun σ G H Hb e E Q q => h σ G H Hb e E _ fun v G' H' d g t ⟨b, e1, r⟩ => by
  subst e1
  exact ⟨b, dt_bl.mp t, q b G' H' g r⟩
theorem etD (h : EvD K te ρ (.bl b)) : EvT K (tTest te) ρ (fun x => x = b) := et_test (h.mono fun d e => ⟨b, e, rfl⟩)
theorem etB (h : EvD K te ρ (.bl b)) : EvT K (tB te) ρ (fun x => x = b) := et_B (h.mono fun d e => ⟨b, e, rfl⟩)
theorem et_not {R : Bool → Prop} (h : EvT K tt ρ (fun b => R (!b))) : EvT K (tNot tt) ρ R := fun σ G H Hb e E Q q => h σ G H Hb e E _ fun b G' H' g r => q _ G' H' g r
theorem et_notD (h : EvT K tt ρ (fun x => x = b)) : EvT K (tNot tt) ρ (fun x => x = !b) := et_not (h.mono fun x e => by rw [e])
theorem et_and {R1 R : Bool → Prop} (h1 : EvT K tt ρ R1) (h2 : R1 true → EvT K tu ρ R) (h3 : R1 false → R false) : EvT K (tAnd tt tu) ρ R := fun σ G H Hb e E Q q => h1 σ G H Hb e E _ fun b G' H' g r => by
  cases b with
  | true =>
    rw [if_pos rfl]
    exact h2 r σ G' H' Hb g.gh (E.grow g) Q fun c G2 H2 g2 r2 => q c G2 H2 (g.trans g2) r2
  | false =>
    rw [if_neg Bool.false_ne_true]
    exact q false G' H' g (h3 r)
theorem et_or {R1 R : Bool → Prop} (h1 : EvT K tt ρ R1) (h2 : R1 false → EvT K tu ρ R) (h3 : R1 true → R true) : EvT K (tOr tt tu) ρ R := fun σ G H Hb e E Q q => h1 σ G H Hb e E _ fun b G' H' g r => by
  cases b with
  | false =>
    rw [if_neg Bool.false_ne_true]
    exact h2 r σ G' H' Hb g.gh (E.grow g) Q fun c G2 H2 g2 r2 => q c G2 H2 (g.trans g2) r2
  | true =>
    rw [if_pos rfl]
    exact q true G' H' g (h3 r)
theorem et_andD (h1 : EvT K tt ρ (fun x => x = b)) (h2 : b = true → EvT K tu ρ (fun x => x = c)) : EvT K (tAnd tt tu) ρ (fun x => x = (b && c)) :=
  et_and h1 (fun e => (h2 e.symm).mono fun x e2 => by rw [e2, ← e]; rfl) fun e => by rw [← e]; rfl
theorem et_orD (h1 : EvT K tt ρ (fun x => x = b)) (h2 : b = false → EvT K tu ρ (fun x => x = c)) : EvT K (tOr tt tu) ρ (fun x => x = (b || c)) :=
  et_or h1 (fun e => (h2 e.symm).mono fun x e2 => by rw [e2, ← e]; rfl) fun e => by rw [← e]; rfl
/-- a value that is a truth, of which R -/
theorem ev_andV {R1 R : Bool → Prop} (h1 : EvR K ta ρ (fun d => ∃ b, d = .bl b ∧ R1 b)) (h2 : R1 true → EvR K tb ρ (fun d => ∃ b, d = .bl b ∧ R b)) (h3 : R1 false → R false) : EvR K (tAndV ta tb) ρ (fun d => ∃ b, d = .bl b ∧ R b) := fun σ G H Hb e E Q q =>
  h1 σ G H Hb e E _ fun v G' H' d g t ⟨b, e1, r⟩ => by
    subst e1
    refine ⟨b, dt_bl.mp t, ?_⟩
    cases b with
    | true =>
      rw [if_pos rfl]
      exact h2 r σ G' H' Hb g.gh (E.grow g) Q fun w G2 H2 d g2 t2 r2 => q w G2 H2 d (g.trans g2) t2 r2
    | false =>
      rw [if_neg Bool.false_ne_true]
      exact q _ G' H' _ g (dt_bl.mpr rfl) ⟨false, rfl, h3 r⟩
theorem ev_andD (h1 : EvD K ta ρ (.bl b)) (h2 : b = true → EvD K tb ρ (.bl c)) : EvD K (tAndV ta tb) ρ (.bl (b && c)) :=
  (ev_andV (R1 := fun x => x = b) (R := fun x => x = (b && c)) (h1.mono fun d e => ⟨b, e, rfl⟩) (fun e => (h2 e.symm).mono fun d e2 => ⟨c, e2, by rw [← e]; rfl⟩) (fun e => by rw [← e]; rfl)).mono fun d ⟨x, e1, e2⟩ => by rw [e1, e2]
theorem ev_notD (h1 : EvD K ta ρ (.bl b)) : EvD K (tNotV ta) ρ (.bl (!b)) := fun σ G H Hb e E Q q => h1 σ G H Hb e E _ fun v G' H' d g t r => by
  subst r
  exact ⟨b, dt_bl.mp t, q _ G' H' _ g (dt_bl.mpr rfl) rfl⟩
theorem ev_chain {r r' : R2} {x y z : D} (ha : EvD K ta ρ x) (hb : EvD K tb ρ y) (hc : b = true → EvD K tc ρ z) (h1 : OpD K r x y (fun d => d = .bl b)) (h2 : OpD K r' y z (fun d => d = .bl c)) :
    EvD K (tChain r r' ta tb tc) ρ (.bl (b && c)) := fun σ G H Hb e E Q q =>
  ha σ G H Hb e E _ fun v G1 H1 d1 g1 t1 r1 => hb σ G1 H1 Hb g1.gh (E.grow g1) _ fun u G2 H2 d2 g2 t2 r2 => by
    subst r1 r2
    refine h1 G2 H2 v u g2.gh (t1.mono g2.gg) t2 _ fun w G3 H3 d3 g3 t3 r3 => ?_
    subst r3
    refine ⟨b, dt_bl.mp t3, ?_⟩
    cases b with
    | true =>
      rw [if_pos rfl]
      refine hc rfl σ G3 H3 Hb g3.gh (E.grow ((g1.trans g2).trans g3)) _ fun w' G4 H4 d4 g4 t4 r4 => ?_
      subst r4
      exact h2 G4 H4 u w' g4.gh (t2.mono (g3.gg.trans g4.gg)) t4 Q fun w5 G5 H5 d5 g5 t5 r5 => q w5 G5 H5 d5 ((((g1.trans g2).trans g3).trans g4).trans g5) t5 r5
    | false =>
      rw [if_neg Bool.false_ne_true]
      exact q _ G3 H3 _ ((g1.trans g2).trans g3) (dt_bl.mpr rfl) rfl

/-! ### subscripts -/
theorem DTs.atI {G : Hp} {ds : List D} {vs : List V} {i : Int} {d : D} (h : DTs K G ds vs) (e : L2.atI ds i = some d) : ∃ v, L2.atI vs i = some v ∧ DT K G d v := by
  unfold L2.atI at e ⊢
  rw [h.length]
  cases q : ixN ds.length i with
  | none => rw [q] at e; cases e
  | some j =>
    rw [q] at e
    exact h.get e
theorem ev_ixL {xs : List D} {d : D} (hi : L2.atI xs i = some d) (ha : EvD K ta ρ (.lst xs)) (hb : EvD K tb ρ (.int i)) : EvD K (tOp (rIxX K) ta tb) ρ d := ev_op ha hb (OpD.l fun G H v u se h1 h2 Q q => by
  obtain ⟨a, vs, rfl, g1, t1⟩ := dt_lst.mp h1
  rw [dt_int.mp h2]
  obtain ⟨w, e, t⟩ := t1.atI hi
  exact ⟨a, vs, i, w, rfl, rfl, SqL.of (se _ _ g1), e, q _ G H _ (.refl se) t rfl⟩)
theorem ev_ixT {xs : List D} {d : D} (hi : L2.atI xs i = some d) (ha : EvD K ta ρ (.tup xs)) (hb : EvD K tb ρ (.int i)) : EvD K (tOp (rIxX K) ta tb) ρ d := ev_op ha hb (OpD.r fun G H v u se h1 h2 Q q => by
  obtain ⟨a, vs, rfl, g1, t1⟩ := dt_tup.mp h1
  rw [dt_int.mp h2]
  obtain ⟨w, e, t⟩ := t1.atI hi
  exact ⟨a, vs, i, w, rfl, rfl, SqT.of (se _ _ g1), e, q _ G H _ (.refl se) t rfl⟩)
theorem ev_ixS {ns : List Int} {n : Int} (hi : L2.atI ns i = some n) (ha : EvD K ta ρ (.scr ns)) (hb : EvD K tb ρ (.int i)) : EvD K (tOp (rIxX K) ta tb) ρ (.int n) := ev_op ha hb (OpD.l fun G H v u se h1 h2 Q q => by
  obtain ⟨a, rfl, g1⟩ := dt_scr.mp h1
  rw [dt_int.mp h2]
  refine ⟨a, ns.map V.int, i, .int n, rfl, rfl, se.seq g1, ?_, q _ G H _ (.refl se) (dt_int.mpr rfl) rfl⟩
  unfold L2.atI at hi ⊢
  rw [List.length_map]
  cases q : ixN ns.length i with
  | none => rw [q] at hi; cases hi
  | some j =>
    rw [q] at hi
    have hi : ns[j]? = some n := hi
    show (ns.map V.int)[j]? = _
    rw [List.getElem?_map, hi] <;> rfl)
/-- of an own list -/
theorem ev_ixO {k : Nat} {a : Addr} {xs : List D} {d : D} (hs : ρ[k]? = some (some (.o a xs))) (hi : L2.atI xs i = some d) (hb : EvD K tb ρ (.int i)) : EvD K (tOp (rIxX K) (tVar k) tb) ρ d := fun σ G H Hb e E Q q => by
  obtain ⟨v, h1, rfl, _, _, vs, h4, h5⟩ := E.sl k _ hs
  refine ⟨_, h1, hb σ G H Hb e E _ fun u G2 H2 d2 g2 t2 r2 => ?_⟩
  subst r2
  rw [dt_int.mp t2]
  obtain ⟨w, e2, t⟩ := h5.atI hi
  exact .inl ⟨a, vs, i, w, rfl, rfl, SqL.of (g2.hh _ _ h4), e2, q _ G2 H2 _ g2 (t.mono g2.gg) rfl⟩

/-! ### slices -/
def cutL {α : Type} (xs : List α) (lo hi : Option Int) : List α := (xs.drop (HT.sIx xs.length 0 lo)).take (HT.sIx xs.length xs.length hi - HT.sIx xs.length 0 lo)
theorem DTs.cut {G : Hp} {ds : List D} {vs : List V} (h : DTs K G ds vs) (lo hi : Option Int) : DTs K G (cutL ds lo hi) (cutV vs lo hi) := by
  unfold cutL cutV
  rw [h.length]
  exact (h.drop _).take _
theorem eo_none : EvO K tNoPart ρ none := fun σ G H Hb e E Q q => q G H (.refl e)
theorem eo_some (h : EvD K te ρ (.int i)) : EvO K (tPart te) ρ (some i) := fun σ G H Hb e E Q q => h σ G H Hb e E _ fun v G' H' d g t r => by
  subst r
  exact ⟨i, dt_int.mp t, q G' H' g⟩
variable {tl th : TO} {lo hi : Option Int}
theorem ev_slL {xs : List D} (ha : EvD K ta ρ (.lst xs)) (hl : EvO K tl ρ lo) (hh : EvO K th ρ hi) : EvN K (tSl (rSlX K) ta tl th) ρ (fun ds => ds = cutL xs lo hi) := fun σ G H Hb e E Q q =>
  ha σ G H Hb e E _ fun v G1 H1 d g1 t1 r1 => hl σ G1 H1 Hb g1.gh (E.grow g1) _ fun G2 H2 g2 => hh σ G2 H2 Hb g2.gh (E.grow (g1.trans g2)) _ fun G3 H3 g3 => by
    subst r1
    obtain ⟨a, vs, rfl, h2, t2⟩ := dt_lst.mp t1
    refine .inl ⟨a, vs, rfl, SqL.of (g3.hh _ _ (g2.hh _ _ (g1.gh _ _ h2))), fun p hp => ?_⟩
    exact q p _ G3 _ _ (((g1.trans g2).trans g3).trans (.aside g3.gh hp)) (Same.free ((g1.trans g2).trans g3).hh hp) (Same.free g3.gh hp) upd_same ((t2.mono (g2.gg.trans g3.gg)).cut lo hi) rfl
theorem ev_slS {ns : List Int} (ha : EvD K ta ρ (.scr ns)) (hl : EvO K tl ρ lo) (hh : EvO K th ρ hi) : EvN K (tSl (rSlX K) ta tl th) ρ (fun ds => ds = (cutL ns lo hi).map D.int) := fun σ G H Hb e E Q q =>
  ha σ G H Hb e E _ fun v G1 H1 d g1 t1 r1 => hl σ G1 H1 Hb g1.gh (E.grow g1) _ fun G2 H2 g2 => hh σ G2 H2 Hb g2.gh (E.grow (g1.trans g2)) _ fun G3 H3 g3 => by
    subst r1
    obtain ⟨a, rfl, h2⟩ := dt_scr.mp t1
    refine .inl ⟨a, _, rfl, Same.seq (g1.gh.trans (g2.hh.trans g3.hh)) h2, fun p hp => ?_⟩
    refine q p _ G3 _ _ (((g1.trans g2).trans g3).trans (.aside g3.gh hp)) (Same.free ((g1.trans g2).trans g3).hh hp) (Same.free g3.gh hp) upd_same (dts_ints.mpr ?_) rfl
    unfold cutL cutV
    rw [List.length_map, ← List.map_drop, ← List.map_take]
theorem ev_slT {xs : List D} (ha : EvD K ta ρ (.tup xs)) (hl : EvO K tl ρ lo) (hh : EvO K th ρ hi) : EvD K (tSl (rSlX K) ta tl th) ρ (.tup (cutL xs lo hi)) := fun σ G H Hb e E Q q =>
  ha σ G H Hb e E _ fun v G1 H1 d g1 t1 r1 => hl σ G1 H1 Hb g1.gh (E.grow g1) _ fun G2 H2 g2 => hh σ G2 H2 Hb g2.gh (E.grow (g1.trans g2)) _ fun G3 H3 g3 => by
    subst r1
    obtain ⟨a, vs, rfl, h2, t2⟩ := dt_tup.mp t1
    refine .inr ⟨a, vs, rfl, SqT.of (g3.hh _ _ (g2.hh _ _ (g1.gh _ _ h2))), fun hw => ?_, fun hw p hp => ?_⟩
    · rw [t2.length] at hw
      have ew : cutL xs lo hi = xs := by
        unfold cutL
        rw [hw.1, hw.2]
        simp
      exact q _ G3 H3 _ ((g1.trans g2).trans g3) (by rw [ew]; exact (t1.mono (g2.gg.trans g3.gg))) rfl
    · have hg := Same.free g3.gh hp
      exact q _ _ _ _ (((g1.trans g2).trans g3).trans (.new g3.gh hp)) (dt_tup.mpr ⟨p, _, rfl, upd_same, ((t2.mono (g2.gg.trans g3.gg)).cut lo hi).mono (same_upd (.inl hg))⟩) rfl

/-! ### displays -/
variable {tA : TA}
theorem ev_tupR {Rs : List D → Prop} (h : EvA K tA ρ Rs) (hz : ∀ ds, Rs ds → ds.length ≤ 100000) : EvR K (tTup tA) ρ (fun d => ∃ ds, d = .tup ds ∧ Rs ds) := fun σ G H Hb e E Q q => h σ G H Hb e E _ fun vs G1 H1 ds g1 t1 r1 =>
  ⟨sz5 (by rw [t1.length]; exact hz ds r1), fun p hp => q _ _ _ _ (g1.trans (.new g1.gh hp)) (dt_tup.mpr ⟨p, vs, rfl, upd_same, t1.mono (same_upd (.inl (Same.free g1.gh hp)))⟩) ⟨ds, rfl, r1⟩⟩
theorem ev_tup {ds : List D} (h : EvA K tA ρ (fun x => x = ds)) (hz : ds.length ≤ 100000) : EvD K (tTup tA) ρ (.tup ds) := (ev_tupR h fun x e => by rw [e]; exact hz).mono fun d ⟨x, e1, e2⟩ => by rw [e1, e2]
theorem ev_lst {Rs : List D → Prop} (h : EvA K tA ρ Rs) (hz : ∀ ds, Rs ds → ds.length ≤ 100000) : EvN K (tLst tA) ρ Rs := fun σ G H Hb e E Q q => h σ G H Hb e E _ fun vs G1 H1 ds g1 t1 r1 =>
  ⟨sz5 (by rw [t1.length]; exact hz ds r1), fun p hp => q p vs G1 _ ds (g1.trans (.aside g1.gh hp)) (Same.free g1.hh hp) (Same.free g1.gh hp) upd_same t1 r1⟩
theorem ev_lstD {ds : List D} (h : EvA K tA ρ (fun x => x = ds)) (hz : ds.length ≤ 100000) : EvN K (tLst tA) ρ (fun x => x = ds) := ev_lst h fun x e => by rw [e]; exact hz
theorem ev_nil : EvN K (tLst tNil) ρ (fun x => x = []) := ev_lstD ea_nil (by decide)

/-! ### attributes -/
theorem zip_lookup {G : Hp} {f : Str} {d : D} : ∀ {ns : List Str} {ds : List D} {vs : List V}, ns.length = ds.length → DTs K G ds vs → (ns.zip ds).lookup f = some d → ∃ v, (ns.zip vs).lookup f = some v ∧ DT K G d v
  | [], _, _, _, _, e => by simp at e
  | n :: ns, [], _, hl, _, _ => by simp at hl
  | n :: ns, x :: ds, vs, hl, h, e => by
    obtain ⟨v, r, rfl, h2, h3⟩ := dts_cons.mp h
    rw [List.zip_cons_cons, List.lookup_cons] at e ⊢
    cases c : f == n with
    | true =>
      rw [c] at e
      cases e
      exact ⟨v, rfl, h2⟩
    | false =>
      rw [c] at e
      exact zip_lookup (by simpa using hl) h3 e
theorem zip_lookup_none {f : Str} {vs : List V} : ∀ {ns : List Str} , f ∉ ns → (ns.zip vs).lookup f = none
  | ns, h => by
    induction ns generalizing vs with
    | nil => rfl
    | cons n ns ih =>
      cases vs with
      | nil => rfl
      | cons v vs =>
        rw [List.zip_cons_cons, List.lookup_cons]
        have : (f == n) = false := beq_eq_false_iff_ne.mpr fun z => h (by rw [z]; exact List.mem_cons_self)
        rw [this]
        exact ih fun z => h (List.mem_cons_of_mem _ z)
theorem ev_fld {C : Addr} {ns : List Str} {ds : List D} {d : D} {f : Str} (c : Cls K C) (n : NoAttr K C f) (hl : (ns.zip ds).lookup f = some d) (ha : EvD K ta ρ (.ins C ns ds)) : EvD K (tFld K ta f) ρ d := fun σ G H Hb e E Q q =>
  ha σ G H Hb e E _ fun v G1 H1 x g1 t1 r1 => by
    subst r1
    obtain ⟨a, dx, vs, rfl, h2, h3, h4⟩ := dt_ins.mp t1
    obtain ⟨w, e1, t⟩ := zip_lookup h3 h4 hl
    exact ⟨a, C, dx, _, w, rfl, g1.gh _ _ h2, c, n, e1, q w G1 H1 d g1 t rfl⟩

/-! ### built-in functions -/
theorem fd_len {xs : List D} : FnD K (fun xs H Q => ∃ p ys, xs = [.ref p] ∧ (SqL K H p ys ∨ SqT K H p ys) ∧ Q (.int ys.length) H) [.lst xs] (fun d => d = .int xs.length) := fun G H vs se h Q q => by
  obtain ⟨v, r, rfl, h2, h3⟩ := dts_cons.mp h
  rw [dts_nil.mp h3]
  obtain ⟨a, us, rfl, g, t⟩ := dt_lst.mp h2
  refine ⟨a, us, rfl, .inl (SqL.of (se _ _ g)), ?_⟩
  rw [t.length]
  exact q _ G H _ (.refl se) (dt_int.mpr rfl) rfl
theorem fd_lenT {xs : List D} : FnD K (fun xs H Q => ∃ p ys, xs = [.ref p] ∧ (SqL K H p ys ∨ SqT K H p ys) ∧ Q (.int ys.length) H) [.tup xs] (fun d => d = .int xs.length) := fun G H vs se h Q q => by
  obtain ⟨v, r, rfl, h2, h3⟩ := dts_cons.mp h
  rw [dts_nil.mp h3]
  obtain ⟨a, us, rfl, g, t⟩ := dt_tup.mp h2
  refine ⟨a, us, rfl, .inr (SqT.of (se _ _ g)), ?_⟩
  rw [t.length]
  exact q _ G H _ (.refl se) (dt_int.mpr rfl) rfl
theorem fd_lenS {ns : List Int} : FnD K (fun xs H Q => ∃ p ys, xs = [.ref p] ∧ (SqL K H p ys ∨ SqT K H p ys) ∧ Q (.int ys.length) H) [.scr ns] (fun d => d = .int ns.length) := fun G H vs se h Q q => by
  obtain ⟨v, r, rfl, h2, h3⟩ := dts_cons.mp h
  rw [dts_nil.mp h3]
  obtain ⟨a, rfl, g⟩ := dt_scr.mp h2
  refine ⟨a, _, rfl, .inl (se.seq g), ?_⟩
  rw [List.length_map]
  exact q _ G H _ (.refl se) (dt_int.mpr rfl) rfl
abbrev rLenX (K : PySem.W.Frag) : List V → Hp → VK → Prop := fun xs H Q => ∃ p ys, xs = [.ref p] ∧ (SqL K H p ys ∨ SqT K H p ys) ∧ Q (.int ys.length) H
theorem ev_len {xs : List D} (ha : EvD K ta ρ (.lst xs)) : EvD K (tCB (rLenX K) (tCons ta tNil)) ρ (.int xs.length) := ev_cb (ea_consD ha ea_nil) fun ds e => by rw [e]; exact fd_len
theorem ev_lenT {xs : List D} (ha : EvD K ta ρ (.tup xs)) : EvD K (tCB (rLenX K) (tCons ta tNil)) ρ (.int xs.length) := ev_cb (ea_consD ha ea_nil) fun ds e => by rw [e]; exact fd_lenT
theorem ev_lenS {ns : List Int} (ha : EvD K ta ρ (.scr ns)) : EvD K (tCB (rLenX K) (tCons ta tNil)) ρ (.int ns.length) := ev_cb (ea_consD ha ea_nil) fun ds e => by rw [e]; exact fd_lenS
/-- list(xs) of a list or a tuple -/
abbrev rListX (K : PySem.W.Frag) : List V → Hp → VK → Prop := fun xs H Q => ∃ p ys, xs = [.ref p] ∧ (SqL K H p ys ∨ SqT K H p ys) ∧ ∀ l, H l = none → Q (.ref l) (upd H l (.lst ys))
theorem ev_list {xs : List D} (ha : EvD K ta ρ (.lst xs)) : EvN K (tCB (rListX K) (tCons ta tNil)) ρ (fun ds => ds = xs) := ev_cbN (ea_consD ha ea_nil) fun ds e => by
  rw [e]
  exact fun G H vs se h Q q => by
    obtain ⟨v, r, rfl, h2, h3⟩ := dts_cons.mp h
    rw [dts_nil.mp h3]
    obtain ⟨a, us, rfl, g, t⟩ := dt_lst.mp h2
    exact ⟨a, us, rfl, .inl (SqL.of (se _ _ g)), fun l hl => q l us G _ xs (.aside se hl) hl (Same.free se hl) upd_same t rfl⟩
theorem ev_listT {xs : List D} (ha : EvD K ta ρ (.tup xs)) : EvN K (tCB (rListX K) (tCons ta tNil)) ρ (fun ds => ds = xs) := ev_cbN (ea_consD ha ea_nil) fun ds e => by
  rw [e]
  exact fun G H vs se h Q q => by
    obtain ⟨v, r, rfl, h2, h3⟩ := dts_cons.mp h
    rw [dts_nil.mp h3]
    obtain ⟨a, us, rfl, g, t⟩ := dt_tup.mp h2
    exact ⟨a, us, rfl, .inr (SqT.of (se _ _ g)), fun l hl => q l us G _ xs (.aside se hl) hl (Same.free se hl) upd_same t rfl⟩
/-- tuple(xs) -/
abbrev rTupleX (K : PySem.W.Frag) : List V → Hp → VK → Prop := fun xs H Q => ∃ p ys, xs = [.ref p] ∧ ((SqL K H p ys ∧ ∀ l, H l = none → Q (.ref l) (upd H l (.tup ys))) ∨ (SqT K H p ys ∧ Q (.ref p) H))
theorem ev_tupleR {Rs : List D → Prop} (ha : EvR K ta ρ (fun d => ∃ xs, d = .lst xs ∧ Rs xs)) : EvR K (tCB (rTupleX K) (tCons ta tNil)) ρ (fun d => ∃ xs, d = .tup xs ∧ Rs xs) := ev_cb (ea_cons ha ea_nil) fun ds ⟨d, r, e, ⟨xs, e1, r1⟩, e2⟩ => by
  subst e2 e1 e
  exact fun G H vs se h Q q => by
    obtain ⟨v, r, rfl, h2, h3⟩ := dts_cons.mp h
    rw [dts_nil.mp h3]
    obtain ⟨a, us, rfl, g, t⟩ := dt_lst.mp h2
    exact ⟨a, us, rfl, .inl ⟨SqL.of (se _ _ g), fun l hl => q _ _ _ (.tup xs) (.new se hl) (dt_tup.mpr ⟨l, us, rfl, upd_same, t.mono (same_upd (.inl (Same.free se hl)))⟩) ⟨xs, rfl, r1⟩⟩⟩
theorem ev_tuple {xs : List D} (ha : EvD K ta ρ (.lst xs)) : EvD K (tCB (rTupleX K) (tCons ta tNil)) ρ (.tup xs) := (ev_tupleR (Rs := fun x => x = xs) (ha.mono fun d e => ⟨xs, e, rfl⟩)).mono fun d ⟨x, e1, e2⟩ => by rw [e1, e2]
theorem ev_tupleT {xs : List D} (ha : EvD K ta ρ (.tup xs)) : EvD K (tCB (rTupleX K) (tCons ta tNil)) ρ (.tup xs) := ev_cb (ea_consD ha ea_nil) fun ds e => by
  rw [e]
  exact fun G H vs se h Q q => by
    obtain ⟨v, r, rfl, h2, h3⟩ := dts_cons.mp h
    rw [dts_nil.mp h3]
    obtain ⟨a, us, rfl, g, t⟩ := dt_tup.mp h2
    exact ⟨a, us, rfl, .inr ⟨SqT.of (se _ _ g), q _ G H _ (.refl se) h2 rfl⟩⟩
abbrev rInt1 : List V → Hp → VK → Prop := fun xs H Q => (∃ i, xs = [.int i] ∧ Q (.int i) H) ∨ ∃ k, xs = [.bl k] ∧ Q (.int (if k then 1 else 0)) H
theorem ev_intB (ha : EvD K ta ρ (.bl b)) : EvD K (tCB rInt1 (tCons ta tNil)) ρ (.int (if b then 1 else 0)) := ev_cb (ea_consD ha ea_nil) fun ds e => by
  rw [e]
  exact fun G H vs se h Q q => by
    obtain ⟨v, r, rfl, h2, h3⟩ := dts_cons.mp h
    rw [dts_nil.mp h3, dt_bl.mp h2]
    exact .inr ⟨b, rfl, q _ G H _ (.refl se) (dt_int.mpr rfl) rfl⟩
abbrev rMax2 : List V → Hp → VK → Prop := fun xs H Q => ∃ i j, xs = [.int i, .int j] ∧ Q (.int (if j > i then j else i)) H
theorem ev_max (ha : EvD K ta ρ (.int i)) (hb : EvD K tb ρ (.int j)) : EvD K (tCB rMax2 (tCons ta (tCons tb tNil))) ρ (.int (max i j)) := ev_cb (ea_consD ha (ea_consD hb ea_nil)) fun ds e => by
  rw [e]
  exact fun G H vs se h Q q => by
    obtain ⟨v, r, rfl, h2, h3⟩ := dts_cons.mp h
    obtain ⟨u, r, rfl, h4, h5⟩ := dts_cons.mp h3
    rw [dts_nil.mp h5, dt_int.mp h2, dt_int.mp h4]
    refine ⟨i, j, rfl, ?_⟩
    have e : (if j > i then j else i) = max i j := by
      by_cases c : j > i
      · rw [if_pos c]; omega
      · rw [if_neg c]; omega
    rw [e]
    exact q _ G H _ (.refl se) (dt_int.mpr rfl) rfl
abbrev rAbs : List V → Hp → VK → Prop := fun xs H Q => ∃ i, xs = [.int i] ∧ Q (.int (if i < 0 then -i else i)) H
theorem ev_abs (ha : EvD K ta ρ (.int i)) : EvD K (tCB rAbs (tCons ta tNil)) ρ (.int (i.natAbs : Int)) := ev_cb (ea_consD ha ea_nil) fun ds e => by
  rw [e]
  exact fun G H vs se h Q q => by
    obtain ⟨v, r, rfl, h2, h3⟩ := dts_cons.mp h
    rw [dts_nil.mp h3, dt_int.mp h2]
    refine ⟨i, rfl, ?_⟩
    have e : (if i < 0 then -i else i) = (i.natAbs : Int) := by
      by_cases c : i < 0
      · rw [if_pos c]; omega
      · rw [if_neg c]; omega
    rw [e]
    exact q _ G H _ (.refl se) (dt_int.mpr rfl) rfl
theorem ev_sumR {P : List Int → Prop} (ha : EvR K ta ρ (fun d => ∃ ns, d = .lst (ns.map D.int) ∧ P ns)) : EvR K (tCB (rSum K) (tCons ta tNil)) ρ (fun d => ∃ ns, d = .int ns.sum ∧ P ns) := ev_cb (ea_cons ha ea_nil) fun ds ⟨d, r, e, ⟨ns, e1, r1⟩, e2⟩ => by
  subst e2 e1 e
  exact fun G H vs se h Q q => by
    obtain ⟨v, r, rfl, h2, h3⟩ := dts_cons.mp h
    rw [dts_nil.mp h3]
    obtain ⟨a, us, rfl, g, t⟩ := dt_lst.mp h2
    rw [dts_ints.mp t] at g
    exact ⟨a, ns, rfl, SqL.of (se _ _ g), q _ G H _ (.refl se) (dt_int.mpr rfl) ⟨ns, rfl, r1⟩⟩
theorem ev_sum {ns : List Int} (ha : EvD K ta ρ (.lst (ns.map D.int))) : EvD K (tCB (rSum K) (tCons ta tNil)) ρ (.int ns.sum) := (ev_sumR (P := fun x => x = ns) (ha.mono fun d e => ⟨ns, e, rfl⟩)).mono fun d ⟨x, e1, e2⟩ => by rw [e1, e2]
theorem ev_allR {P : List Bool → Prop} (ha : EvR K ta ρ (fun d => ∃ ns, d = .lst (ns.map D.bl) ∧ P ns)) : EvR K (tCB (rAll K) (tCons ta tNil)) ρ (fun d => ∃ b, d = .bl b ∧ ∃ ns, b = ns.all id ∧ P ns) := ev_cb (ea_cons ha ea_nil) fun ds ⟨d, r, e, ⟨ns, e1, r1⟩, e2⟩ => by
  subst e2 e1 e
  exact fun G H vs se h Q q => by
    obtain ⟨v, r, rfl, h2, h3⟩ := dts_cons.mp h
    rw [dts_nil.mp h3]
    obtain ⟨a, us, rfl, g, t⟩ := dt_lst.mp h2
    rw [dts_bls.mp t] at g
    exact ⟨a, ns, rfl, SqL.of (se _ _ g), q _ G H _ (.refl se) (dt_bl.mpr rfl) ⟨_, rfl, ns, rfl, r1⟩⟩
theorem ev_anyR {P : List Bool → Prop} (ha : EvR K ta ρ (fun d => ∃ ns, d = .lst (ns.map D.bl) ∧ P ns)) : EvR K (tCB (rAny K) (tCons ta tNil)) ρ (fun d => ∃ b, d = .bl b ∧ ∃ ns, b = ns.any id ∧ P ns) := ev_cb (ea_cons ha ea_nil) fun ds ⟨d, r, e, ⟨ns, e1, r1⟩, e2⟩ => by
  subst e2 e1 e
  exact fun G H vs se h Q q => by
    obtain ⟨v, r, rfl, h2, h3⟩ := dts_cons.mp h
    rw [dts_nil.mp h3]
    obtain ⟨a, us, rfl, g, t⟩ := dt_lst.mp h2
    rw [dts_bls.mp t] at g
    exact ⟨a, ns, rfl, SqL.of (se _ _ g), q _ G H _ (.refl se) (dt_bl.mpr rfl) ⟨_, rfl, ns, rfl, r1⟩⟩

/-! ### isinstance -/
/-- a tree's built-in type, "" for an instance -/
def tyD : D → String
  | .non => "NoneType"
  | .bl _ => "bool"
  | .int _ => "int"
  | .lst _ => "list"
  | .tup _ => "tuple"
  | .ins _ _ _ => ""
  | .scr _ => ""
theorem tyx_of {G H : Hp} {d : D} {v : V} (se : Same G H) (h : DT K G d v) (hn : tyD d ≠ "") : TyX K H v (.type (tyD d)) := by
  cases d with
  | non => rw [dt_non.mp h]; exact .base .non
  | bl b => rw [dt_bl.mp h]; exact .base (.bl b)
  | int i => rw [dt_int.mp h]; exact .base (.int i)
  | lst xs =>
    obtain ⟨a, vs, rfl, g, _⟩ := dt_lst.mp h
    exact .base (.lst (se _ _ g))
  | tup xs =>
    obtain ⟨a, vs, rfl, g, _⟩ := dt_tup.mp h
    exact .base (.tup (se _ _ g))
  | ins _ _ _ => exact absurd rfl hn
  | scr _ => exact absurd rfl hn
theorem ev_isi {d : D} {T : String} (hn : tyD d ≠ "") (hk : kitB (tyD d) T = some b) (ha : EvD K ta ρ d) : EvD K (tCB (rIsi K) (tCons ta (tCons (tC (.ty T)) tNil))) ρ (.bl b) := fun σ G H Hb e E Q q =>
  ha σ G H Hb e E _ fun v G1 H1 x g1 t1 r1 => by
    subst r1
    exact ⟨v, .ty T, _, _, b, rfl, .ty T, tyx_of g1.gh t1 hn, kit_ty hk, q _ G1 H1 _ g1 (dt_bl.mpr rfl) rfl⟩
/-- the facts of a class of one's own that isinstance asks -/
structure IsC (K : PySem.W.Frag) (C : Addr) : Prop where
  cl : Cls K C
  ha : PySem.W.findIn K (.ref C) "__class__" = some (some (.builtin "object.__class__"))
  hn : PySem.W.specialIn K (.builtin "object.__class__") "__get__" = some (some (.builtin "getset_descriptor.__get__"))
  ht : PySem.W.takesIn K (.builtin "object.__class__") = some true
  hm : PySem.W.mroIn K C (.type "object") = some true
theorem ev_isC {C : Addr} {ns : List Str} {ds : List D} (c : IsC K C) (ha : EvD K ta ρ (.ins C ns ds)) : EvD K (tCB (rIsi K) (tCons ta (tCons (tC (.ref C)) tNil))) ρ (.bl true) := fun σ G H Hb e E Q q =>
  ha σ G H Hb e E _ fun v G1 H1 x g1 t1 r1 => by
    subst r1
    obtain ⟨a, dx, vs, rfl, h2, h3, h4⟩ := dt_ins.mp t1
    have hk : PySem.W.kitOne K (.ref C) (.ref C) = some true := by
      unfold PySem.W.kitOne
      rw [if_pos (by simp)]
    exact ⟨.ref a, .ref C, _, _, true, rfl, .own C, .base (.ins (g1.gh _ _ h2) c.cl c.ha c.hn c.ht c.hm), hk, q _ G1 H1 _ g1 (dt_bl.mpr rfl) rfl⟩
end
end Kt
end
section
set_option Elab.async false
set_option linter.all false
set_option maxRecDepth 100000
set_option maxHeartbeats 4000000
set_option autoImplicit false
/-! Ks: what is walked, targets, comprehensions, statements, promises, in trees. -/
namespace Kt
open PySem L2 Kr

/-! ### what is walked -/
/-- a list or a tuple -/
def iSeq (K : PySem.W.Frag) (tl : TE) : TI := fun σ H R => iList K tl σ H R ∨ iTup K tl σ H R
theorem pi_seq {X : Cx} {tg l : Expr} {tl : TE} (hl : PE X l tl) : PI X tg l (iSeq X.K tl) := ⟨fun pins s σ H R I h => by
  rcases h with h | h
  · exact (pi_list hl).run pins s σ H R I h
  · exact (pi_tup hl).run pins s σ H R I h⟩
/-- a tree that is a list or a tuple of these -/
def IsSeq (d : D) (ds : List D) : Prop := d = .lst ds ∨ d = .tup ds
section
variable {K : PySem.W.Frag} {ρ ρ' : Rho} {ta tb te tl : TE} {tA : TA} {tt : TT} {R : D → Prop}
theorem walk_lst {G1 : Hp} {a : Addr} {vs : List V} {ds : List D} (g : G1 a = some (.lst vs)) (t : DTs K G1 ds vs) : WalkD K (Itl K a) G1 ds := fun G2 H2 e1 e2 => by
  have q : SqL K H2 a vs := SqL.of (e2 _ _ (e1 _ _ g))
  refine ⟨fun i d hd => ?_, ⟨vs, q, by rw [t.length]; exact Nat.le_refl _⟩⟩
  obtain ⟨v, hv, tv⟩ := (t.mono e1).get hd
  refine ⟨⟨vs, v, q, hv⟩, fun x H' y => ?_⟩
  obtain ⟨rfl, y⟩ := y
  have := y vs q
  rw [hv] at this
  cases this
  exact ⟨G2, .refl e2, tv⟩
theorem walk_tp {G1 : Hp} {a : Addr} {vs : List V} {ds : List D} (g : G1 a = some (.tup vs)) (t : DTs K G1 ds vs) : WalkD K (Itt K a) G1 ds := fun G2 H2 e1 e2 => by
  have q : SqT K H2 a vs := SqT.of (e2 _ _ (e1 _ _ g))
  refine ⟨fun i d hd => ?_, ⟨vs, q, by rw [t.length]; exact Nat.le_refl _⟩⟩
  obtain ⟨v, hv, tv⟩ := (t.mono e1).get hd
  refine ⟨⟨vs, v, q, hv⟩, fun x H' y => ?_⟩
  obtain ⟨rfl, y⟩ := y
  have := y vs q
  rw [hv] at this
  cases this
  exact ⟨G2, .refl e2, tv⟩
theorem ei_lstR {Rs : List D → Prop} (h : EvR K tl ρ (fun d => ∃ ds, d = .lst ds ∧ Rs ds)) : EvI K (iSeq K tl) ρ Rs := fun σ G H Hb e E Q q => .inl (h σ G H Hb e E _ fun v G1 H1 d g1 t1 ⟨ds, hd, r⟩ => by
  subst hd
  obtain ⟨a, vs, rfl, g, t⟩ := dt_lst.mp t1
  exact ⟨a, rfl, ⟨vs, SqL.of (g1.gh _ _ g)⟩, q _ G1 H1 ds g1 (walk_lst g t) r⟩)
theorem ei_tupR {Rs : List D → Prop} (h : EvR K tl ρ (fun d => ∃ ds, d = .tup ds ∧ Rs ds)) : EvI K (iSeq K tl) ρ Rs := fun σ G H Hb e E Q q => .inr (h σ G H Hb e E _ fun v G1 H1 d g1 t1 ⟨ds, hd, r⟩ => by
  subst hd
  obtain ⟨a, vs, rfl, g, t⟩ := dt_tup.mp t1
  exact ⟨a, rfl, ⟨vs, SqT.of (g1.gh _ _ g)⟩, q _ G1 H1 ds g1 (walk_tp g t) r⟩)
theorem ei_lst {ds : List D} (h : EvD K tl ρ (.lst ds)) : EvI K (iSeq K tl) ρ (fun x => x = ds) := ei_lstR (h.mono fun d e => ⟨ds, e, rfl⟩)
theorem ei_tup {ds : List D} (h : EvD K tl ρ (.tup ds)) : EvI K (iSeq K tl) ρ (fun x => x = ds) := ei_tupR (h.mono fun d e => ⟨ds, e, rfl⟩)
def rangeD (n : Nat) : List D := (List.range n).map fun i : Nat => .int (i : Int)
theorem rangeD_get {n i : Nat} {d : D} (h : (rangeD n)[i]? = some d) : i < n ∧ d = .int (i : Int) := by
  unfold rangeD at h
  rw [List.getElem?_map] at h
  by_cases c : i < n
  · rw [List.getElem?_range c] at h
    cases h
    exact ⟨c, rfl⟩
  · rw [List.getElem?_eq_none (by simpa using c)] at h; cases h
theorem rangeD_len (n : Nat) : (rangeD n).length = n := by simp [rangeD]
theorem ei_range {n : Int} (h0 : n ≤ 1000000) (h1 : -1000000 ≤ n) (h : EvD K ta ρ (.int n)) : EvI K (iRng1 (tCons ta tNil)) ρ (fun x => x = rangeD n.toNat) := fun σ G H Hb e E Q q => ea_consD h ea_nil σ G H Hb e E _ fun vs G1 H1 ds g1 t1 r1 => by
  subst r1
  obtain ⟨v, r, rfl, h2, h3⟩ := dts_cons.mp t1
  rw [dts_nil.mp h3, dt_int.mp h2]
  refine ⟨n, rfl, by omega, by omega, q _ G1 H1 _ g1 (fun G2 H2 e1 e2 => ⟨fun i d hd => ?_, ?_⟩) rfl⟩
  · obtain ⟨hi, rfl⟩ := rangeD_get hd
    refine ⟨hi, fun x H' y => ?_⟩
    obtain ⟨rfl, rfl⟩ := y
    refine ⟨G2, .refl e2, dt_int.mpr ?_⟩
    rw [Int.zero_add]
  · rw [rangeD_len]
    exact Nat.le_refl _
/-- pairs -/
def zipD (xs ys : List D) : List D := List.zipWith (fun x y => .tup [x, y]) xs ys
theorem zipD_get {xs ys : List D} {i : Nat} {d : D} (h : (zipD xs ys)[i]? = some d) : ∃ x y, xs[i]? = some x ∧ ys[i]? = some y ∧ d = .tup [x, y] := by
  unfold zipD at h
  rw [List.getElem?_zipWith] at h
  cases hx : xs[i]? with
  | none => rw [hx] at h; cases h
  | some x =>
    cases hy : ys[i]? with
    | none => rw [hx, hy] at h; cases h
    | some y =>
      rw [hx, hy] at h
      exact ⟨x, y, rfl, rfl, (Option.some.inj h).symm⟩
theorem zipD_len (xs ys : List D) : (zipD xs ys).length = min xs.length ys.length := by simp [zipD]
theorem pair_new {G H : Hp} {x y : D} {v u : V} {T : Addr} (e : Same G H) (h1 : DT K G x v) (h2 : DT K G y u) (hT : H T = none) : ∃ G', Grow G H G' (upd H T (.tup [v, u])) ∧ DT K G' (.tup [x, y]) (.ref T) :=
  ⟨upd G T (.tup [v, u]), .new e hT, dt_tup.mpr ⟨T, _, rfl, upd_same, (DTs.cons' h1 (DTs.cons' h2 .nil')).mono (same_upd (.inl (Same.free e hT)))⟩⟩
/-- of which kind a sequence is -/
theorem sq_of {G : Hp} {d : D} {v : V} {ds : List D} (s : IsSeq d ds) (h : DT K G d v) : ∃ b a vs, v = .ref a ∧ (∀ H, Same G H → Sq b K H a vs) ∧ DTs K G ds vs := by
  rcases s with rfl | rfl
  · obtain ⟨a, vs, rfl, g, t⟩ := dt_lst.mp h
    exact ⟨true, a, vs, rfl, fun H e => SqL.of (e _ _ g), t⟩
  · obtain ⟨a, vs, rfl, g, t⟩ := dt_tup.mp h
    exact ⟨false, a, vs, rfl, fun H e => SqT.of (e _ _ g), t⟩
theorem Sq.inj' {b : Bool} {H : Hp} {a : Addr} {xs ys : List V} : Sq b K H a xs → Sq b K H a ys → (∀ zs, Sq b K H a zs → zs = xs) → ys = xs := fun _ h k => k ys h
theorem ei_zipR {Rx Ry : D → Prop} {Rs : List D → Prop} (ha : EvR K ta ρ Rx) (hb : EvR K tb ρ Ry) (hr : ∀ x y, Rx x → Ry y → ∃ xs ys, IsSeq x xs ∧ IsSeq y ys ∧ Rs (zipD xs ys)) : EvI K (iZipB K (tCons ta (tCons tb tNil))) ρ Rs := fun σ G H Hb e E Q q =>
  ea_cons ha (ea_cons hb ea_nil) σ G H Hb e E _ fun vs G1 H1 ds g1 t1 ⟨x, r, e1, rx, y, r', e2, ry, e3⟩ => by
    subst e3 e2 e1
    obtain ⟨xs, ys, sx, sy, r⟩ := hr x y rx ry
    obtain ⟨v, r1, rfl, h2, h3⟩ := dts_cons.mp t1
    obtain ⟨u, r2, rfl, h4, h5⟩ := dts_cons.mp h3
    rw [dts_nil.mp h5]
    obtain ⟨b, a, vs, rfl, k1, w1⟩ := sq_of sx h2
    obtain ⟨c, d, us, rfl, k2, w2⟩ := sq_of sy h4
    refine ⟨b, c, a, d, vs, us, rfl, k1 _ g1.gh, k2 _ g1.gh, q _ G1 H1 _ g1 (fun G2 H2 e1 e2 => ⟨fun i z hz => ?_, ?_⟩) r⟩
    · obtain ⟨x', y', hx, hy, rfl⟩ := zipD_get hz
      obtain ⟨v', hv, tv⟩ := (w1.mono e1).get hx
      obtain ⟨u', hu, tu⟩ := (w2.mono e1).get hy
      refine ⟨⟨vs, us, v', u', k1 _ (e1.trans e2), k2 _ (e1.trans e2), hv, hu⟩, fun w H' y => ?_⟩
      obtain ⟨T, p, q', rfl, hT, rfl, f1, f2⟩ := y
      have ep := f1 vs (k1 _ (e1.trans e2))
      have eq := f2 us (k2 _ (e1.trans e2))
      rw [hv] at ep; cases ep
      rw [hu] at eq; cases eq
      exact pair_new e2 tv tu hT
    · refine ⟨vs, us, k1 _ (e1.trans e2), k2 _ (e1.trans e2), ?_, ?_, ?_⟩
      · rw [w1.length, zipD_len]; exact Nat.min_le_left _ _
      · rw [w2.length, zipD_len]; exact Nat.min_le_right _ _
      · rw [w1.length, w2.length, zipD_len]; omega
theorem ei_zip {x y : D} {xs ys : List D} (sx : IsSeq x xs) (sy : IsSeq y ys) (ha : EvD K ta ρ x) (hb : EvD K tb ρ y) : EvI K (iZipB K (tCons ta (tCons tb tNil))) ρ (fun z => z = zipD xs ys) :=
  ei_zipR ha hb fun a b e1 e2 => ⟨xs, ys, by rw [e1]; exact sx, by rw [e2]; exact sy, rfl⟩
def enumD (xs : List D) : List D := zipD (rangeD xs.length) xs
theorem ei_enum {xs : List D} (ha : EvD K ta ρ (.lst xs)) : EvI K (iEnum K (tCons ta tNil)) ρ (fun z => z = enumD xs) := fun σ G H Hb e E Q q =>
  ea_consD ha ea_nil σ G H Hb e E _ fun vs G1 H1 ds g1 t1 r1 => by
    subst r1
    obtain ⟨v, r, rfl, h2, h3⟩ := dts_cons.mp t1
    rw [dts_nil.mp h3]
    obtain ⟨a, vs, rfl, g, t⟩ := dt_lst.mp h2
    refine ⟨a, vs, rfl, SqL.of (g1.gh _ _ g), q _ G1 H1 _ g1 (fun G2 H2 e1 e2 => ⟨fun i z hz => ?_, ?_⟩) rfl⟩
    · obtain ⟨x', y', hx, hy, rfl⟩ := zipD_get hz
      obtain ⟨hi, rfl⟩ := rangeD_get hx
      obtain ⟨v', hv, tv⟩ := (t.mono e1).get hy
      refine ⟨⟨vs, v', SqL.of (e2 _ _ (e1 _ _ g)), hv⟩, fun w H' y => ?_⟩
      obtain ⟨T, p, rfl, hT, rfl, f1⟩ := y
      have ep := f1 vs (SqL.of (e2 _ _ (e1 _ _ g)))
      rw [hv] at ep; cases ep
      exact pair_new e2 (dt_int.mpr rfl) tv hT
    · refine ⟨vs, SqL.of (e2 _ _ (e1 _ _ g)), ?_⟩
      unfold enumD
      rw [zipD_len, rangeD_len, t.length]
      omega

/-! ### targets -/
/-- assigning the tree d to the target g leads from ρ to ρ', the slots js written -/
def Tgt (K : PySem.W.Frag) (g : TG) (js : List Nat) (d : D) (ρ ρ' : Rho) : Prop := ∀ (σ : L2.St) (G H Hb : Hp) (v : V), EnvOk K G H Hb σ ρ → Same G H → DT K G d v → ∀ Q : L2.St → Hp → Prop,
  (∀ σ', EnvOk K G H Hb σ' ρ' → (∀ vs : List Nat, (∀ j ∈ js, j ∈ vs) → wipe σ' vs = wipe σ vs) → Q σ' H) → g v σ H Q
def TgtS (K : PySem.W.Frag) (g : TGs) (js : List Nat) (ds : List D) (ρ ρ' : Rho) : Prop := ∀ (σ : L2.St) (G H Hb : Hp) (vs : List V), EnvOk K G H Hb σ ρ → Same G H → DTs K G ds vs → ∀ Q : L2.St → Hp → Prop,
  (∀ σ', EnvOk K G H Hb σ' ρ' → (∀ vs : List Nat, (∀ j ∈ js, j ∈ vs) → wipe σ' vs = wipe σ vs) → Q σ' H) → g vs σ H Q
theorem wipe_set {σ : L2.St} {i : Nat} {x : Option V} : ∀ {vs : List Nat}, i ∈ vs → wipe (σ.set i x) vs = wipe σ vs
  | [], h => by cases h
  | v :: vs, h => by
    unfold wipe
    by_cases c : i ∈ vs
    · rw [wipe_set c]
    · have e : i = v := by
        rcases List.mem_cons.mp h with e | e
        · exact e
        · exact absurd e c
      subst e
      have : ∀ {vs : List Nat}, i ∉ vs → wipe (σ.set i x) vs = (wipe σ vs).set i x := by
        intro vs
        induction vs with
        | nil => intro _; rfl
        | cons w ws ih =>
          intro hn
          unfold wipe
          rw [ih (fun z => hn (List.mem_cons_of_mem _ z)), List.set_comm _ _ (fun z => hn (by rw [z]; exact List.mem_cons_self))]
      rw [this c, List.set_set]
theorem tg_name {i : Nat} {d : D} : Tgt K (gName i) [i] d ρ (ρ.set i (some (.p d))) := fun σ G H Hb v E e h Q q => q _ (E.setP h) fun vs hj => wipe_set (hj i (List.mem_singleton.mpr rfl))
theorem tgs_nil : TgtS K gNil [] [] ρ ρ := fun σ G H Hb vs E e h Q q => ⟨dts_nil.mp h, q σ E fun _ _ => rfl⟩
theorem tgs_cons {g : TG} {gs : TGs} {js ks : List Nat} {d : D} {ds : List D} {ρ1 : Rho} (h1 : Tgt K g js d ρ ρ1) (h2 : TgtS K gs ks ds ρ1 ρ') : TgtS K (gCons g gs) (js ++ ks) (d :: ds) ρ ρ' := fun σ G H Hb vs E e h Q q => by
  obtain ⟨v, r, rfl, t1, t2⟩ := dts_cons.mp h
  refine ⟨v, r, rfl, h1 σ G H Hb v E e t1 _ fun σ1 E1 w1 => h2 σ1 G H Hb r E1 e t2 Q fun σ2 E2 w2 => q σ2 E2 fun vs hj => ?_⟩
  rw [w2 vs fun j hm => hj j (List.mem_append_right _ hm), w1 vs fun j hm => hj j (List.mem_append_left _ hm)]
theorem tg_tup {gs : TGs} {js : List Nat} {n : Nat} {ds : List D} (hn : ds.length = n) (h : TgtS K gs js ds ρ ρ') : Tgt K (gTup K n gs) js (.tup ds) ρ ρ' := fun σ G H Hb v E e t Q q => by
  obtain ⟨a, vs, rfl, g, t2⟩ := dt_tup.mp t
  exact ⟨a, vs, rfl, SqT.of (e _ _ g), by rw [t2.length]; exact hn, h σ G H Hb vs E e t2 Q q⟩
theorem tg_unl {gs : TGs} {js : List Nat} {n : Nat} {ds : List D} (hn : ds.length = n) (h : TgtS K gs js ds ρ ρ') : Tgt K (gUnl K n gs) js (.lst ds) ρ ρ' := fun σ G H Hb v E e t Q q => by
  obtain ⟨a, vs, rfl, g, t2⟩ := dt_lst.mp t
  exact ⟨a, vs, rfl, SqL.of (e _ _ g), by rw [t2.length]; exact hn, h σ G H Hb vs E e t2 Q q⟩

/-! ### comprehensions -/
def wipeR (ρ : Rho) : List Nat → Rho
  | [] => ρ
  | v :: vs => (wipeR ρ vs).set v none
theorem EnvOk.wipe {G H Hb : Hp} {σ : L2.St} (E : EnvOk K G H Hb σ ρ) : ∀ vs : List Nat, EnvOk K G H Hb (L2.wipe σ vs) (wipeR ρ vs)
  | [] => E
  | v :: vs => by
    have E1 := EnvOk.wipe E vs
    show EnvOk K G H Hb ((L2.wipe σ vs).set v none) ((wipeR ρ vs).set v none)
    refine ⟨fun i s e => ?_, fun i j s t a e1 e2 h1 h2 => ?_, by rw [List.length_set, List.length_set]; exact E1.len⟩
    · rcases get_set e with ⟨rfl, e2, _⟩ | ⟨c, e2⟩
      · cases e2
      · obtain ⟨u, h1, h2⟩ := E1.sl i s e2
        exact ⟨u, by rw [List.getElem?_set_ne (Ne.symm c)]; exact h1, h2⟩
    · rcases get_set e1 with ⟨rfl, e3, _⟩ | ⟨c1, e3⟩
      · cases e3
      · rcases get_set e2 with ⟨rfl, e4, _⟩ | ⟨c2, e4⟩
        · cases e4
        · exact E1.un i j s t a e3 e4 h1 h2
/-- which of the items are taken, and what is made of them -/
inductive Made (T : D → Bool → Prop) (F : D → D → Prop) : List D → List D → Prop
  | nil : Made T F [] []
  | yes {d e : D} {ds es : List D} : T d true → F d e → Made T F ds es → Made T F (d :: ds) (e :: es)
  | no {d : D} {ds es : List D} : T d false → Made T F ds es → Made T F (d :: ds) es
theorem Made.snoc_yes {T : D → Bool → Prop} {F : D → D → Prop} {d e : D} (h1 : T d true) (h2 : F d e) : ∀ {ds es : List D}, Made T F ds es → Made T F (ds ++ [d]) (es ++ [e])
  | _, _, .nil => .yes h1 h2 .nil
  | _, _, .yes a b c => .yes a b (Made.snoc_yes h1 h2 c)
  | _, _, .no a c => .no a (Made.snoc_yes h1 h2 c)
theorem Made.snoc_no {T : D → Bool → Prop} {F : D → D → Prop} {d : D} (h1 : T d false) : ∀ {ds es : List D}, Made T F ds es → Made T F (ds ++ [d]) es
  | _, _, .nil => .no h1 .nil
  | _, _, .yes a b c => .yes a b (Made.snoc_no h1 c)
  | _, _, .no a c => .no a (Made.snoc_no h1 c)
theorem Made.len {T : D → Bool → Prop} {F : D → D → Prop} : ∀ {ds es : List D}, Made T F ds es → es.length ≤ ds.length
  | _, _, .nil => Nat.le_refl _
  | _, _, .yes _ _ c => Nat.succ_le_succ c.len
  | _, _, .no _ c => Nat.le_succ_of_le c.len
theorem take_succ {α : Type} {l : List α} {i : Nat} {x : α} (h : l[i]? = some x) : l.take (i + 1) = l.take i ++ [x] := by
  obtain ⟨hi, e⟩ := List.getElem?_eq_some_iff.mp h
  rw [List.take_succ, h] <;> rfl
/-- [te for .. in .. if tt] -/
theorem ev_lcF {wi : TI} {g : TG} {vs js : List Nat} {Rs : List D → Prop} {T : D → Bool → Prop} {F : D → D → Prop} (hi : EvI K wi ρ Rs) (hz : ∀ ds, Rs ds → ds.length ≤ 50000) (hj : ∀ j ∈ js, j ∈ vs)
    (hb : ∀ ds d, Rs ds → d ∈ ds → ∃ ρ1, Tgt K g js d (wipeR ρ vs) ρ1 ∧ EvT K tt ρ1 (T d) ∧ (T d true → EvR K te ρ1 (F d))) :
    EvN K (tLc wi g tt te vs) ρ (fun es => ∃ ds, Rs ds ∧ Made T F ds es) := fun σ G H Hb e E Q q => hi σ G H Hb e E _ fun J G1 H1 ds g1 wk rs Dl hD => by
  have E1 : EnvOk K G1 H1 Hb σ ρ := E.grow g1
  -- the word: what stands at Dl is made of the items gone through
  refine ⟨fun i m H2 => m = ds.length - i ∧ i ≤ ds.length ∧ ∃ G2 us es, Grow G1 H1 G2 H2 ∧ G2 Dl = none ∧ H2 Dl = some (.lst us) ∧ DTs K G2 es us ∧ Made T F (ds.take i) es,
    ⟨ds.length, by simp, Nat.zero_le _, G1, [], [], .aside g1.gh hD, Same.free g1.gh hD, upd_same, .nil', .nil⟩, ?_⟩
  rintro i m H2 ⟨rfl, hle, G2, us, es, g2, n2, h2, t2, md⟩
  have wk2 := wk G2 H2 g2.gg g2.gh
  by_cases hlt : i < ds.length
  · obtain ⟨d, hd⟩ : ∃ d, ds[i]? = some d := ⟨ds[i], by simp [hlt]⟩
    have dm : d ∈ ds := List.mem_of_getElem? hd
    obtain ⟨go, yl⟩ := wk2.1 i d hd
    refine .inr ⟨go, fun H3 => ∃ G3 us es, Grow G1 H1 G3 H3 ∧ G3 Dl = none ∧ H3 Dl = some (.lst us) ∧ DTs K G3 es us ∧ Made T F (ds.take (i + 1)) es, fun H' ⟨G3, us, es, a⟩ => ⟨ds.length - (i + 1), by omega, rfl, hlt, G3, us, es, a⟩, fun x H3 y => ?_⟩
    obtain ⟨G3, g3, tx⟩ := yl x H3 y
    have hk2 : H2 Dl ≠ none := by rw [h2]; exact fun z => nomatch z
    have n3 : G3 Dl = none := g3.fr Dl n2 hk2
    have h3 : H3 Dl = some (.lst us) := g3.hh _ _ h2
    obtain ⟨ρ1, tgt, et, ev⟩ := hb ds d rs dm
    have E3 : EnvOk K G3 H3 Hb (L2.wipe σ vs) (wipeR ρ vs) := ((E1.grow g2).grow g3).wipe vs
    refine tgt _ G3 H3 Hb x E3 g3.gh tx _ fun σ2 E4 w4 => ⟨?_, et σ2 G3 H3 Hb g3.gh E4 _ fun b G4 H4 g4 tb => ?_⟩
    · rw [w4 vs hj]
      have ww : ∀ vs : List Nat, ∀ ks : List Nat, (∀ k ∈ ks, k ∈ vs) → L2.wipe (L2.wipe σ ks) vs = L2.wipe σ vs := by
        intro vs ks
        induction ks with
        | nil => intro _; rfl
        | cons k ks ih =>
          intro hk
          show L2.wipe ((L2.wipe σ ks).set k none) vs = _
          rw [wipe_set (hk k List.mem_cons_self)]
          exact ih fun j hj => hk j (List.mem_cons_of_mem _ hj)
      exact ww vs vs fun _ h => h
    · have hk3 : H3 Dl ≠ none := by rw [h3]; exact fun z => nomatch z
      have n4 : G4 Dl = none := g4.fr Dl n3 hk3
      have h4 : H4 Dl = some (.lst us) := g4.hh _ _ h3
      cases b with
      | false =>
        rw [if_neg Bool.false_ne_true]
        refine ⟨G4, us, es, (g2.trans g3).trans g4, n4, h4, t2.mono (g3.gg.trans g4.gg), ?_⟩
        rw [take_succ hd]
        exact md.snoc_no tb
      | true =>
        rw [if_pos rfl]
        refine ev tb σ2 G4 H4 Hb g4.gh (E4.grow g4) _ fun w G5 H5 z g5 tz fz => ?_
        have hk4 : H4 Dl ≠ none := by rw [h4]; exact fun z => nomatch z
        have n5 : G5 Dl = none := g5.fr Dl n4 hk4
        have h5 : H5 Dl = some (.lst us) := g5.hh _ _ h4
        have lz : us.length ≤ 50000 := by
          rw [t2.length]
          have q1 := md.len
          have q2 := hz ds rs
          rw [List.length_take] at q1
          omega
        refine ⟨us, h5, Nat.lt_of_le_of_lt lz (by decide), G5, _, es ++ [z], (((g2.trans g3).trans g4).trans g5).mut hD n5, n5, upd_same, (t2.mono ((g3.gg.trans g4.gg).trans g5.gg)).snoc tz, ?_⟩
        rw [take_succ hd]
        exact md.snoc_yes tb fz
  · have ei : i = ds.length := by omega
    subst ei
    refine .inl ⟨wk2.2, ?_⟩
    rw [List.take_length] at md
    exact q Dl us G2 H2 es (g1.trans g2) (Same.free g1.hh hD) n2 h2 t2 ⟨ds, rs, md⟩
/-- one by one -/
inductive All2 (F : D → D → Prop) : List D → List D → Prop
  | nil : All2 F [] []
  | cons {d e : D} {ds es : List D} : F d e → All2 F ds es → All2 F (d :: ds) (e :: es)
theorem made_all {F : D → D → Prop} : ∀ {ds es : List D}, Made (fun _ b => b = true) F ds es → All2 F ds es
  | _, _, .nil => .nil
  | _, _, .yes _ b c => .cons b (made_all c)
  | _, _, .no a c => nomatch a
theorem All2.map {f : D → D} : ∀ {ds es : List D}, All2 (fun d e => e = f d) ds es → es = ds.map f
  | _, _, .nil => rfl
  | _, _, .cons a c => by rw [a, c.map] <;> rfl
theorem All2.mono {F F' : D → D → Prop} : ∀ {ds es : List D}, All2 F ds es → (∀ d e, d ∈ ds → F d e → F' d e) → All2 F' ds es
  | _, _, .nil, _ => .nil
  | _, _, .cons a c, k => .cons (k _ _ List.mem_cons_self a) (c.mono fun d e hm => k d e (List.mem_cons_of_mem _ hm))
theorem All2.len {F : D → D → Prop} : ∀ {ds es : List D}, All2 F ds es → es.length = ds.length
  | _, _, .nil => rfl
  | _, _, .cons _ c => congrArg Nat.succ c.len
theorem et_yes : EvT K tYes ρ (fun b => b = true) := fun σ G H Hb e E Q q => q true G H (.refl e) rfl
theorem ev_lc {wi : TI} {g : TG} {vs js : List Nat} {Rs : List D → Prop} {F : D → D → Prop} (hi : EvI K wi ρ Rs) (hz : ∀ ds, Rs ds → ds.length ≤ 50000) (hj : ∀ j ∈ js, j ∈ vs)
    (hb : ∀ ds d, Rs ds → d ∈ ds → ∃ ρ1, Tgt K g js d (wipeR ρ vs) ρ1 ∧ EvR K te ρ1 (F d)) : EvN K (tLc wi g tYes te vs) ρ (fun es => ∃ ds, Rs ds ∧ All2 F ds es) :=
  (ev_lcF (T := fun _ b => b = true) hi hz hj fun ds d rs hd => let ⟨ρ1, h1, h2⟩ := hb ds d rs hd; ⟨ρ1, h1, et_yes, fun _ => h2⟩).mono fun es ⟨ds, rs, md⟩ => ⟨ds, rs, made_all md⟩
/-- exactly -/
theorem ev_lcD {wi : TI} {g : TG} {vs js : List Nat} {ds : List D} (f : D → D) (hi : EvI K wi ρ (fun x => x = ds)) (hz : ds.length ≤ 50000) (hj : ∀ j ∈ js, j ∈ vs)
    (hb : ∀ d, d ∈ ds → ∃ ρ1, Tgt K g js d (wipeR ρ vs) ρ1 ∧ EvD K te ρ1 (f d)) : EvN K (tLc wi g tYes te vs) ρ (fun es => es = ds.map f) :=
  (ev_lc (F := fun d e => e = f d) hi (fun x e => by rw [e]; exact hz) hj fun x d e hd => hb d (by rw [← e]; exact hd)).mono fun es ⟨x, e, a⟩ => by rw [a.map, e]
end
end Kt
end
section
set_option Elab.async false
set_option linter.all false
set_option maxRecDepth 100000
set_option maxHeartbeats 4000000
set_option autoImplicit false
/-! Kx: statements, promises, in trees. -/
namespace Kt
open PySem L2 Kr

/-- what is wanted behind a statement -/
structure Post where
  nx : Rho → Prop
  rt : D → Prop := fun _ => False
  bk : Rho → Prop := fun _ => False
  ct : Rho → Prop := fun _ => False
def SA (K : PySem.W.Frag) (Gb Hb : Hp) (ρ : Rho) (σ : L2.St) (H : Hp) : Prop := ∃ G, Grow Gb Hb G H ∧ EnvOk K G H Hb σ ρ
def Run (K : PySem.W.Frag) (t : TS) (ρ : Rho) (P : Post) : Prop := ∀ (Gb Hb : Hp) (σ : L2.St) (H : Hp) (E : Ends), SA K Gb Hb ρ σ H →
  (∀ σ' H' ρ', P.nx ρ' → SA K Gb Hb ρ' σ' H' → E.nx σ' H') → (∀ v H' G' d, P.rt d → Grow Gb Hb G' H' → DT K G' d v → E.rt v H') →
  (∀ σ' H' ρ', P.bk ρ' → SA K Gb Hb ρ' σ' H' → E.bk σ' H') → (∀ σ' H' ρ', P.ct ρ' → SA K Gb Hb ρ' σ' H' → E.ct σ' H') → t E σ H
section
variable {K : PySem.W.Frag} {ρ ρ' : Rho} {P : Post} {ta tb te : TE} {tA : TA} {tt : TT} {t u : TS} {R : D → Prop} {i : Nat}
theorem Run.weak {P' : Post} (h : Run K t ρ P) (h1 : ∀ ρ, P.nx ρ → P'.nx ρ) (h2 : ∀ d, P.rt d → P'.rt d) (h3 : ∀ ρ, P.bk ρ → P'.bk ρ) (h4 : ∀ ρ, P.ct ρ → P'.ct ρ) : Run K t ρ P' := fun Gb Hb σ H E s n r b c =>
  h Gb Hb σ H E s (fun σ' H' ρ' q => n σ' H' ρ' (h1 ρ' q)) (fun v H' G' d q => r v H' G' d (h2 d q)) (fun σ' H' ρ' q => b σ' H' ρ' (h3 ρ' q)) (fun σ' H' ρ' q => c σ' H' ρ' (h4 ρ' q))
/-- a statement, then the rest: M between them -/
theorem r_seq (M : Rho → Prop) (h : Run K t ρ { P with nx := M }) (k : ∀ ρ', M ρ' → Run K u ρ' P) : Run K (tSeq t u) ρ P := fun Gb Hb σ H E s n r b c =>
  h Gb Hb σ H { E with nx := u E } s (fun σ' H' ρ' m s' => k ρ' m Gb Hb σ' H' E s' n r b c) r b c
theorem r_next (h : P.nx ρ) : Run K tNext ρ P := fun Gb Hb σ H E s n r b c => n σ H ρ h s
theorem r_break (h : P.bk ρ) : Run K tBreak ρ P := fun Gb Hb σ H E s n r b c => b σ H ρ h s
theorem r_cont (h : P.ct ρ) : Run K tCont ρ P := fun Gb Hb σ H E s n r b c => c σ H ρ h s
/-- x = e, any target -/
theorem r_asg {g : TG} (h : EvR K te ρ R) (k : ∀ d, R d → ∃ js ρ1, Tgt K g js d ρ ρ1 ∧ P.nx ρ1) : Run K (tAsg te g) ρ P := fun Gb Hb σ H E ⟨G, gr, en⟩ n r b c =>
  h σ G H Hb gr.gh en _ fun v G' H' d g' t' r' => by
    obtain ⟨js, ρ1, tg, p⟩ := k d r'
    exact tg σ G' H' Hb v (en.grow g') g'.gh t' _ fun σ' E' _ => n σ' H' ρ1 p ⟨G', gr.trans g', E'⟩
theorem r_set (h : EvR K te ρ R) (k : ∀ d, R d → P.nx (ρ.set i (some (.p d)))) : Run K (tAsg te (gName i)) ρ P := r_asg h fun d r => ⟨_, _, tg_name, k d r⟩
theorem rq_asg {g : TG} (h : EvR K te ρ R) (k : ∀ d, R d → ∃ js ρ1, Tgt K g js d ρ ρ1 ∧ Run K u ρ1 P) : Run K (tSeq (tAsg te g) u) ρ P :=
  r_seq (fun ρ1 => Run K u ρ1 P) (r_asg h k) fun ρ1 h => h
theorem rq_set (h : EvR K te ρ R) (k : ∀ d, R d → Run K u (ρ.set i (some (.p d))) P) : Run K (tSeq (tAsg te (gName i)) u) ρ P := rq_asg h fun d r => ⟨_, _, tg_name, k d r⟩
theorem rq_setD {d : D} (h : EvD K te ρ d) (k : Run K u (ρ.set i (some (.p d))) P) : Run K (tSeq (tAsg te (gName i)) u) ρ P := rq_set h fun x e => by rw [e]; exact k
/-- a new list, of one's own -/
theorem r_own {Rs : List D → Prop} (h : EvN K te ρ Rs) (k : ∀ a ds, Rs ds → P.nx (ρ.set i (some (.o a ds)))) : Run K (tAsg te (gName i)) ρ P := fun Gb Hb σ H E ⟨G, gr, en⟩ n r b c =>
  h σ G H Hb gr.gh en _ fun a vs G' H' ds g' h1 h2 h3 t' r' => n _ H' _ (k a ds r') ⟨G', gr.trans g', en.setO g' gr.hh h1 h2 h3 t'⟩
theorem rq_own {Rs : List D → Prop} (h : EvN K te ρ Rs) (k : ∀ a ds, Rs ds → Run K u (ρ.set i (some (.o a ds))) P) : Run K (tSeq (tAsg te (gName i)) u) ρ P :=
  r_seq (fun ρ1 => Run K u ρ1 P) (r_own h k) fun ρ1 h => h
theorem rq_ownD {xs : List D} (h : EvN K te ρ (fun ds => ds = xs)) (k : ∀ a, Run K u (ρ.set i (some (.o a xs))) P) : Run K (tSeq (tAsg te (gName i)) u) ρ P := rq_own h fun a ds e => by rw [e]; exact k a
/-- an own list becomes known -/
theorem r_freeze {a : Addr} {ds : List D} (hs : ρ[i]? = some (some (.o a ds))) (h : Run K t (ρ.set i (some (.p (.lst ds)))) P) : Run K t ρ P := fun Gb Hb σ H E ⟨G, gr, en⟩ n r b c => by
  obtain ⟨G', g', E'⟩ := en.freeze gr hs
  exact h Gb Hb σ H E ⟨G', g', E'⟩ n r b c
/-- a slot is forgotten -/
theorem r_forget {ρ1 : Rho} (hl : ρ1.length = ρ.length) (hs : ∀ (j : Nat) (s : Sl), ρ1[j]? = some (some s) → ρ[j]? = some (some s)) (h : Run K t ρ1 P) : Run K t ρ P := fun Gb Hb σ H E ⟨G, gr, en⟩ n r b c =>
  h Gb Hb σ H E ⟨G, gr, fun j s e => en.sl j s (hs j s e), fun j k s t a e1 e2 => en.un j k s t a (hs j s e1) (hs k t e2), by rw [hl]; exact en.len⟩ n r b c
theorem r_ret (h : EvR K te ρ P.rt) : Run K (tRet te) ρ P := fun Gb Hb σ H E ⟨G, gr, en⟩ n r b c => h σ G H Hb gr.gh en _ fun v G' H' d g' t' r' => r v H' G' d r' (gr.trans g') t'
theorem r_retD {d : D} (h : EvD K te ρ d) (k : P.rt d) : Run K (tRet te) ρ P := r_ret (h.mono fun x e => by rw [e]; exact k)
theorem r_retO {a : Addr} {ds : List D} (hs : ρ[i]? = some (some (.o a ds))) (k : P.rt (.lst ds)) : Run K (tRet (tVar i)) ρ P :=
  r_freeze hs (r_retD (ev_var (by rw [List.getElem?_set_self (List.getElem?_eq_some_iff.mp hs).1])) k)
theorem r_if {Rb : Bool → Prop} (h : EvT K tt ρ Rb) (h1 : Rb true → Run K t ρ P) (h2 : Rb false → Run K u ρ P) : Run K (tIfS tt t u) ρ P := fun Gb Hb σ H E ⟨G, gr, en⟩ n r b c =>
  h σ G H Hb gr.gh en _ fun x G' H' g' r' => by
    cases x with
    | true => rw [if_pos rfl]; exact h1 r' Gb Hb σ H' E ⟨G', gr.trans g', en.grow g'⟩ n r b c
    | false => rw [if_neg Bool.false_ne_true]; exact h2 r' Gb Hb σ H' E ⟨G', gr.trans g', en.grow g'⟩ n r b c
/-- an if whose body leaves -/
theorem rq_if {w : TS} {Rb : Bool → Prop} (h : EvT K tt ρ Rb) (h1 : Rb true → Run K t ρ { P with nx := fun ρ1 => Run K w ρ1 P }) (h2 : Rb false → Run K u ρ { P with nx := fun ρ1 => Run K w ρ1 P }) : Run K (tSeq (tIfS tt t u) w) ρ P :=
  r_seq (fun ρ1 => Run K w ρ1 P) (r_if h h1 h2) fun ρ1 h => h
theorem r_drop (h : EvR K te ρ R) (k : P.nx ρ) : Run K (tDrop te) ρ P := fun Gb Hb σ H E ⟨G, gr, en⟩ n r b c =>
  h σ G H Hb gr.gh en _ fun v G' H' d g' t' r' => n σ H' ρ k ⟨G', gr.trans g', en.grow g'⟩
/-- xs.append(e), xs one's own -/
theorem r_app {a : Addr} {ds : List D} (hs : ρ[i]? = some (some (.o a ds))) (hz : ds.length ≤ 50000) (h : EvR K te ρ R) (k : ∀ d, R d → P.nx (ρ.set i (some (.o a (ds ++ [d]))))) :
    Run K (tDrop (tBM K "list" rAppend (tVar i) (tCons te tNil))) ρ P := fun Gb Hb σ H E ⟨G, gr, en⟩ n r b c => by
  obtain ⟨v, h1, rfl, h2, h3, vs, h4, h5⟩ := en.sl i _ hs
  refine ⟨_, h1, .inl ⟨rfl, _, SqL.of h4⟩, h σ G H Hb gr.gh en _ fun w G' H' d g' t' r' => ?_⟩
  have n3 : G' a = none := g'.fr a h3 (by rw [h4]; exact fun z => nomatch z)
  have n4 : H' a = some (.lst vs) := g'.hh _ _ h4
  refine ⟨a, vs, w, rfl, rfl, n4, Nat.lt_of_le_of_lt (by rw [h5.length]; exact hz) (by decide), n σ _ _ (k d r') ⟨G', (gr.trans g').mut h2 n3, (en.grow g').upd hs rfl rfl (fun x _ q => ?_) n3⟩⟩
  obtain ⟨q1, q2, q3, us, q4, q5⟩ := q
  rw [n4] at q4; cases q4
  exact ⟨q1, q2, q3, _, upd_same, q5.snoc t'⟩
theorem rq_app {a : Addr} {ds : List D} (hs : ρ[i]? = some (some (.o a ds))) (hz : ds.length ≤ 50000) (h : EvR K te ρ R) (k : ∀ d, R d → Run K u (ρ.set i (some (.o a (ds ++ [d])))) P) :
    Run K (tSeq (tDrop (tBM K "list" rAppend (tVar i) (tCons te tNil))) u) ρ P := r_seq (fun ρ1 => Run K u ρ1 P) (r_app hs hz h k) fun ρ1 h => h
/-- xs[k] = e, xs one's own -/
theorem r_setI {a : Addr} {ds : List D} {k : Int} {j : Nat} (hs : ρ[i]? = some (some (.o a ds))) (hj : ixN ds.length k = some j) (h : EvR K te ρ R) (hk : EvD K ta ρ (.int k)) (q : ∀ d, R d → P.nx (ρ.set i (some (.o a (ds.set j d))))) :
    Run K (tAsg te (gSub (tVar i) ta rSetL)) ρ P := fun Gb Hb σ H E ⟨G, gr, en⟩ n r b c => h σ G H Hb gr.gh en _ fun w G1 H1 d g1 t1 r1 => by
  obtain ⟨v, h1, rfl, h2, h3, vs, h4, h5⟩ := (en.grow g1).sl i _ hs
  refine ⟨_, h1, hk σ G1 H1 Hb g1.gh (en.grow g1) _ fun x G' H' d' g' t' r' => ?_⟩
  subst r'
  rw [dt_int.mp t']
  have n3 : G' a = none := g'.fr a h3 (by rw [h4]; exact fun z => nomatch z)
  have n4 : H' a = some (.lst vs) := g'.hh _ _ h4
  refine ⟨a, vs, k, j, rfl, rfl, n4, by rw [h5.length]; exact hj, n σ _ _ (q d r1) ⟨G', ((gr.trans g1).trans g').mut h2 n3, ((en.grow g1).grow g').upd hs rfl rfl (fun x _ q => ?_) n3⟩⟩
  obtain ⟨q1, q2, q3, us, q4, q5⟩ := q
  rw [n4] at q4; cases q4
  exact ⟨q1, q2, q3, _, upd_same, q5.set j (t1.mono g'.gg)⟩
theorem rq_setI {a : Addr} {ds : List D} {k : Int} {j : Nat} (hs : ρ[i]? = some (some (.o a ds))) (hj : ixN ds.length k = some j) (h : EvR K te ρ R) (hk : EvD K ta ρ (.int k)) (q : ∀ d, R d → Run K u (ρ.set i (some (.o a (ds.set j d)))) P) :
    Run K (tSeq (tAsg te (gSub (tVar i) ta rSetL)) u) ρ P := r_seq (fun ρ1 => Run K u ρ1 P) (r_setI hs hj h hk q) fun ρ1 h => h
/-- xs[k] += e, of ints -/
theorem r_augI {a : Addr} {ds : List D} {j : Nat} {x y : Int} (hs : ρ[i]? = some (some (.o a ds))) (hj : ds[j]? = some (.int x)) (hk : EvD K ta ρ (.int j)) (h : EvD K te ρ (.int y)) (q : P.nx (ρ.set i (some (.o a (ds.set j (.int (x + y))))))) :
    Run K (tAugS (tVar i) ta te (gIxL K) (ipI fun i j => i + j) rSetL) ρ P := fun Gb Hb σ H E ⟨G, gr, en⟩ n r b c => by
  obtain ⟨v, h1, rfl, h2, h3, vs, h4, h5⟩ := en.sl i _ hs
  refine ⟨_, h1, hk σ G H Hb gr.gh en _ fun x1 G1 H1 d1 g1 t1 r1 => ?_⟩
  subst r1
  rw [dt_int.mp t1]
  have n4 : H1 a = some (.lst vs) := g1.hh _ _ h4
  obtain ⟨w, ew, tw⟩ := h5.get hj
  rw [dt_int.mp tw] at ew
  refine ⟨a, vs, (j : Int), .int x, rfl, rfl, SqL.of n4, by omega, by rw [Int.toNat_natCast]; exact ew, h σ G1 H1 Hb g1.gh (en.grow g1) _ fun x2 G2 H2 d2 g2 t2 r2 => ?_⟩
  subst r2
  rw [dt_int.mp t2]
  have n3 : G2 a = none := g2.fr a (g1.fr a h3 (by rw [h4]; exact fun z => nomatch z)) (by rw [n4]; exact fun z => nomatch z)
  have n5 : H2 a = some (.lst vs) := g2.hh _ _ n4
  have hlt : j < vs.length := (List.getElem?_eq_some_iff.mp ew).1
  have e1 : ixN vs.length (j : Int) = some j := by
    unfold ixN
    rw [if_pos (by omega), if_pos (by omega), Int.toNat_natCast]
  refine ⟨x, y, rfl, rfl, a, vs, (j : Int), j, rfl, rfl, n5, e1, n σ _ _ q ⟨G2, ((gr.trans g1).trans g2).mut h2 n3, ((en.grow g1).grow g2).upd hs rfl rfl (fun x _ q => ?_) n3⟩⟩
  obtain ⟨q1, q2, q3, us, q4, q5⟩ := q
  rw [n5] at q4; cases q4
  exact ⟨q1, q2, q3, _, upd_same, q5.set j (dt_int.mpr rfl)⟩
/-- self.f = e, self one's own -/
theorem zip_put {f : Str} {d : V} : ∀ {ns : List Str} {vs : List V}, ns.length = vs.length → f ∉ ns → putF f d (ns.zip vs) = (ns ++ [f]).zip (vs ++ [d])
  | [], [], _, _ => rfl
  | [], _ :: _, h, _ => by simp at h
  | _ :: _, [], h, _ => by simp at h
  | n :: ns, v :: vs, h, hn => by
    show (if n = f then (n, d) :: ns.zip vs else (n, v) :: putF f d (ns.zip vs)) = (n, v) :: (ns ++ [f]).zip (vs ++ [d])
    rw [if_neg fun e => hn (by rw [e]; exact List.mem_cons_self), zip_put (by simpa using h) fun z => hn (List.mem_cons_of_mem _ z)]
theorem r_fld {a C : Addr} {ns : List Str} {ds : List D} {f : Str} (hs : ρ[i]? = some (some (.i a C ns ds))) (hf : f ∉ ns) (hz : ns.length < 100) (cl : Cls K C) (no : NoAttr K C f) (h : EvR K te ρ R) (k : ∀ d, R d → P.nx (ρ.set i (some (.i a C (ns ++ [f]) (ds ++ [d]))))) :
    Run K (sFld K (tVar i) te f) ρ P := fun Gb Hb σ H E ⟨G, gr, en⟩ n r b c => h σ G H Hb gr.gh en _ fun w G' H' d g' t' r' => by
  obtain ⟨v, h1, rfl, h2, h3, hl, dx, vs, h4, h5⟩ := (en.grow g').sl i _ hs
  have lv := h5.length
  refine ⟨_, h1, a, C, dx, _, rfl, h4, cl, no, by rw [List.length_zip]; omega, n σ _ _ (k d r') ⟨G', (gr.trans g').mut h2 h3, (en.grow g').upd hs rfl rfl (fun x _ q => ?_) h3⟩⟩
  obtain ⟨q1, q2, q3, q4, dx', us, q5, q6⟩ := q
  have ee := h4.symm.trans q5
  have e2 : ns.zip vs = ns.zip us := by injection (Option.some.inj ee)
  have e3 : dx = dx' := by injection (Option.some.inj ee)
  subst e3
  refine ⟨q1, q2, q3, by rw [List.length_append, List.length_append, q4] <;> rfl, dx, us ++ [w], ?_, q6.snoc t'⟩
  rw [upd_same, e2, zip_put (by rw [q6.length, q4]) hf]
theorem rq_fld {a C : Addr} {ns : List Str} {ds : List D} {f : Str} (hs : ρ[i]? = some (some (.i a C ns ds))) (hf : f ∉ ns) (hz : ns.length < 100) (cl : Cls K C) (no : NoAttr K C f) (h : EvR K te ρ R) (k : ∀ d, R d → Run K u (ρ.set i (some (.i a C (ns ++ [f]) (ds ++ [d])))) P) :
    Run K (tSeq (sFld K (tVar i) te f) u) ρ P := r_seq (fun ρ1 => Run K u ρ1 P) (r_fld hs hf hz cl no h k) fun ρ1 h => h
/-- a, b = x, y -/
theorem r_par {j : Nat} {x y : D} (h : EvA K tA ρ (fun ds => ds = [x, y])) (k : P.nx ((ρ.set i (some (.p x))).set j (some (.p y)))) : Run K (tPar i j tA) ρ P := fun Gb Hb σ H E ⟨G, gr, en⟩ n r b c =>
  h σ G H Hb gr.gh en _ fun vs G' H' ds g' t' r' => by
    subst r'
    obtain ⟨v, r1, rfl, t1, t2⟩ := dts_cons.mp t'
    obtain ⟨w, r2, rfl, t3, t4⟩ := dts_cons.mp t2
    rw [dts_nil.mp t4]
    exact ⟨v, w, rfl, n _ H' _ k ⟨G', gr.trans g', ((en.grow g').setP t1).setP t3⟩⟩
theorem rq_par3 {j l : Nat} {x y z : D} (h : EvA K tA ρ (fun ds => ds = [x, y, z])) (k : Run K u (((ρ.set i (some (.p x))).set j (some (.p y))).set l (some (.p z))) P) : Run K (tSeq (tPar3 i j l tA) u) ρ P :=
  r_seq (fun ρ1 => Run K u ρ1 P) (fun Gb Hb σ H E ⟨G, gr, en⟩ n r b c => h σ G H Hb gr.gh en _ fun vs G' H' ds g' t' r' => by
    subst r'
    obtain ⟨v, r1, rfl, t1, t2⟩ := dts_cons.mp t'
    obtain ⟨w, r2, rfl, t3, t4⟩ := dts_cons.mp t2
    obtain ⟨w3, r3, rfl, t5, t6⟩ := dts_cons.mp t4
    rw [dts_nil.mp t6]
    exact ⟨v, w, w3, rfl, n _ H' _ k ⟨G', gr.trans g', (((en.grow g').setP t1).setP t3).setP t5⟩⟩) fun ρ1 h => h

/-! ### loops -/
/-- for .. in ..: I by the turn -/
theorem r_for {wi : TI} {g : TG} {Rs : List D → Prop} (hi : EvI K wi ρ Rs) (I : List D → Nat → Rho → Prop) (h0 : ∀ ds, Rs ds → I ds 0 ρ)
    (hs : ∀ ds k d ρ1, Rs ds → ds[k]? = some d → I ds k ρ1 → ∃ js ρ2, Tgt K g js d ρ1 ρ2 ∧ Run K t ρ2 { P with nx := I ds (k + 1), ct := I ds (k + 1), bk := P.nx }) (hd : ∀ ds ρ1, Rs ds → I ds ds.length ρ1 → P.nx ρ1) : Run K (tFor wi g t) ρ P := fun Gb Hb σ H E ⟨G, gr, en⟩ n r b c =>
  hi σ G H Hb gr.gh en _ fun J G1 H1 ds g1 wk rs => by
    refine ⟨fun k m σ2 H2 => m = ds.length - k ∧ k ≤ ds.length ∧ ∃ ρ2 G2, I ds k ρ2 ∧ Grow Gb Hb G2 H2 ∧ Same G1 G2 ∧ EnvOk K G2 H2 Hb σ2 ρ2,
      ⟨ds.length, by simp, Nat.zero_le _, ρ, G1, h0 ds rs, gr.trans g1, Same.refl _, en.grow g1⟩, ?_⟩
    rintro k m σ2 H2 ⟨rfl, hk, ρ2, G2, iv, g2, s12, E2⟩
    have wk2 := wk G2 H2 s12 g2.gh
    by_cases hlt : k < ds.length
    · obtain ⟨d, hd'⟩ : ∃ d, ds[k]? = some d := ⟨ds[k], by simp [hlt]⟩
      obtain ⟨go, yl⟩ := wk2.1 k d hd'
      refine .inr ⟨go, fun σ3 H3 => ∃ ρ3 G3, I ds (k + 1) ρ3 ∧ Grow Gb Hb G3 H3 ∧ Same G1 G3 ∧ EnvOk K G3 H3 Hb σ3 ρ3, fun σ3 H3 ⟨ρ3, G3, a⟩ => ⟨ds.length - (k + 1), by omega, rfl, hlt, ρ3, G3, a⟩, fun x H3 y => ?_⟩
      obtain ⟨G3, g3, tx⟩ := yl x H3 y
      obtain ⟨js, ρ4, tg, run⟩ := hs ds k d ρ2 rs hd' iv
      refine tg σ2 G3 H3 Hb x (E2.grow g3) g3.gh tx _ fun σ4 E4 _ => ?_
      -- the base of the turn: what stands at its start
      have keep : ∀ {G4 H4}, Grow Gb Hb G4 H4 → Grow G3 H3 G4 H4 → Grow Gb Hb G4 H4 := fun a _ => a
      refine run G3 Hb σ4 H3 { E with nx := _, ct := _, bk := E.nx } ⟨G3, ⟨Same.refl _, (g2.trans g3).hh, g3.gh, fun _ z _ => z⟩, E4⟩ ?_ ?_ ?_ ?_
      · rintro σ5 H5 ρ5 p ⟨G5, g5, E5⟩
        exact ⟨ρ5, G5, p, ⟨(g2.gg.trans g3.gg).trans g5.gg, g5.hh, g5.gh, fun x h1 h2 => g5.fr x ((g2.trans g3).fr x h1 h2) h2⟩, (s12.trans g3.gg).trans g5.gg, E5⟩
      · rintro v H5 G5 d5 p g5 t5
        exact r v H5 G5 d5 p ⟨(g2.gg.trans g3.gg).trans g5.gg, g5.hh, g5.gh, fun x h1 h2 => g5.fr x ((g2.trans g3).fr x h1 h2) h2⟩ t5
      · rintro σ5 H5 ρ5 p ⟨G5, g5, E5⟩
        exact n σ5 H5 ρ5 p ⟨G5, ⟨(g2.gg.trans g3.gg).trans g5.gg, g5.hh, g5.gh, fun x h1 h2 => g5.fr x ((g2.trans g3).fr x h1 h2) h2⟩, E5⟩
      · rintro σ5 H5 ρ5 p ⟨G5, g5, E5⟩
        exact ⟨ρ5, G5, p, ⟨(g2.gg.trans g3.gg).trans g5.gg, g5.hh, g5.gh, fun x h1 h2 => g5.fr x ((g2.trans g3).fr x h1 h2) h2⟩, (s12.trans g3.gg).trans g5.gg, E5⟩
    · have ek : k = ds.length := by omega
      subst ek
      exact .inl ⟨wk2.2, n σ2 H2 ρ2 (hd ds ρ2 rs iv) ⟨G2, g2, E2⟩⟩
theorem r_forD {wi : TI} {g : TG} {ds : List D} (hi : EvI K wi ρ (fun x => x = ds)) (I : Nat → Rho → Prop) (h0 : I 0 ρ)
    (hs : ∀ k d ρ1, ds[k]? = some d → I k ρ1 → ∃ js ρ2, Tgt K g js d ρ1 ρ2 ∧ Run K t ρ2 { P with nx := I (k + 1), ct := I (k + 1), bk := P.nx }) (hd : ∀ ρ1, I ds.length ρ1 → P.nx ρ1) : Run K (tFor wi g t) ρ P :=
  r_for hi (fun _ k ρ => I k ρ) (fun _ _ => h0) (fun x k d ρ1 e hk iv => hs k d ρ1 (by rw [← e]; exact hk) iv) fun x ρ1 e iv => hd ρ1 (by rw [← e]; exact iv)
theorem rq_forD {wi : TI} {g : TG} {ds : List D} (hi : EvI K wi ρ (fun x => x = ds)) (I : Nat → Rho → Prop) (h0 : I 0 ρ)
    (hs : ∀ k d ρ1, ds[k]? = some d → I k ρ1 → ∃ js ρ2, Tgt K g js d ρ1 ρ2 ∧ Run K t ρ2 { P with nx := I (k + 1), ct := I (k + 1), bk := fun ρ3 => Run K u ρ3 P }) (hd : ∀ ρ1, I ds.length ρ1 → Run K u ρ1 P) : Run K (tSeq (tFor wi g t) u) ρ P :=
  r_seq (fun ρ1 => Run K u ρ1 P) (r_forD (P := { P with nx := fun ρ1 => Run K u ρ1 P }) hi I h0 hs hd) fun ρ1 h => h
/-- while: I with a number that falls -/
theorem r_while {tc : TT} (I : Nat → Rho → Prop) (m0 : Nat) (h0 : I m0 ρ) (hs : ∀ m ρ1, I m ρ1 → ∃ Rb : Bool → Prop, EvT K tc ρ1 Rb ∧ (Rb true → Run K t ρ1 { P with nx := fun ρ2 => ∃ m', m' < m ∧ I m' ρ2, ct := fun ρ2 => ∃ m', m' < m ∧ I m' ρ2, bk := P.nx }) ∧ (Rb false → P.nx ρ1)) : Run K (tWhile tc t) ρ P := fun Gb Hb σ H E ⟨G, gr, en⟩ n r b c => by
  refine ⟨fun m σ1 H1 => ∃ ρ1, I m ρ1 ∧ SA K Gb Hb ρ1 σ1 H1, ⟨m0, ρ, h0, G, gr, en⟩, ?_⟩
  rintro m σ1 H1 ⟨ρ1, iv, G1, g1, E1⟩
  obtain ⟨Rb, et, k1, k2⟩ := hs m ρ1 iv
  refine et σ1 G1 H1 Hb g1.gh E1 _ fun x G2 H2 g2 r2 => ?_
  cases x with
  | true =>
    rw [if_pos rfl]
    refine ⟨fun σ3 H3 => ∃ m', m' < m ∧ ∃ ρ3, I m' ρ3 ∧ SA K Gb Hb ρ3 σ3 H3, fun σ3 H3 ⟨m', h1, ρ3, h2⟩ => ⟨m', h1, ρ3, h2⟩, k1 r2 Gb Hb σ1 H2 { E with nx := _, ct := _, bk := E.nx } ⟨G2, g1.trans g2, E1.grow g2⟩ ?_ r n ?_⟩
    · rintro σ3 H3 ρ3 ⟨m', h1, h2⟩ s
      exact ⟨m', h1, ρ3, h2, s⟩
    · rintro σ3 H3 ρ3 ⟨m', h1, h2⟩ s
      exact ⟨m', h1, ρ3, h2, s⟩
  | false =>
    rw [if_neg Bool.false_ne_true]
    exact n σ1 H2 ρ1 (k2 r2) ⟨G2, g1.trans g2, E1.grow g2⟩
theorem rq_while {tc : TT} (I : Nat → Rho → Prop) (m0 : Nat) (h0 : I m0 ρ) (hs : ∀ m ρ1, I m ρ1 → ∃ Rb : Bool → Prop, EvT K tc ρ1 Rb ∧ (Rb true → Run K t ρ1 { P with nx := fun ρ2 => ∃ m', m' < m ∧ I m' ρ2, ct := fun ρ2 => ∃ m', m' < m ∧ I m' ρ2, bk := fun ρ2 => Run K u ρ2 P }) ∧ (Rb false → Run K u ρ1 P)) : Run K (tSeq (tWhile tc t) u) ρ P :=
  r_seq (fun ρ1 => Run K u ρ1 P) (r_while (P := { P with nx := fun ρ1 => Run K u ρ1 P }) I m0 h0 hs) fun ρ1 h => h

/-! ### promises -/
/-- called with the trees args a, of which pre is true, it gives a tree of which post is true -/
def spF (K : PySem.W.Frag) {A : Type} (args : A → List D) (pre : A → Prop) (post : A → D → Prop) : Sp := fun vs H Q _ => ∃ (a : A) (G : Hp), Same G H ∧ DTs K G (args a) vs ∧ pre a ∧ ∀ v G' H' d, Grow G H G' H' → DT K G' d v → post a d → Q v H'
/-- __init__: makes an instance with the fields ns, of whose values post is true -/
def spI (K : PySem.W.Frag) (C : Addr) (ns : List Str) {A : Type} (args : A → List D) (pre : A → Prop) (post : A → List D → Prop) : Sp := fun vs H Q _ => ∃ (a : A) (G : Hp) (x dx : Addr) (us : List V), vs = .ref x :: us ∧ H x = some (.ins C dx []) ∧ Same G H ∧ G x = none ∧ DTs K G (args a) us ∧ pre a ∧
  ∀ G' H' fs vs dx', (∀ b o, G b = some o → G' b = some o) → (∀ b o, b ≠ x → H b = some o → H' b = some o) → Same G' H' → (∀ b, G b = none → H b ≠ none → G' b = none) → G' x = none → H' x = some (.ins C dx' (ns.zip vs)) → ns.length = fs.length → DTs K G' fs vs → post a fs → Q .non H'
theorem ev_call {A : Type} {args : A → List D} {pre : A → Prop} {post : A → D → Prop} {Ra : List D → Prop} (h : EvA K tA ρ Ra) (k : ∀ ds, Ra ds → ∃ a, args a = ds ∧ pre a ∧ ∀ d, post a d → R d) : EvR K (tCall (spF K args pre post) [] E0 tA) ρ R := fun σ G H Hb e E Q q =>
  h σ G H Hb e E _ fun vs G1 H1 ds g1 t1 r1 => by
    obtain ⟨a, e1, p, po⟩ := k ds r1
    rw [List.append_nil]
    exact ⟨a, G1, g1.gh, by rw [e1]; exact t1, p, fun v G2 H2 d g2 t2 r2 => q v G2 H2 d (g1.trans g2) t2 (po d r2)⟩
/-- .. with arguments told -/
theorem ev_callD {A : Type} {args : A → List D} {pre : A → Prop} {post : A → D → Prop} (a : A) (h : EvA K tA ρ (fun x => x = args a)) (p : pre a) : EvR K (tCall (spF K args pre post) [] E0 tA) ρ (post a) := ev_call h fun ds e => ⟨a, e.symm, p, fun _ z => z⟩
theorem ev_meth {C : Addr} {m : Str} {ns : List Str} {ds : List D} {A : Type} {args : A → List D} {pre : A → Prop} {post : A → D → Prop} {Ra : List D → Prop} (hm : m ∉ ns) (ho : EvD K ta ρ (.ins C ns ds)) (h : EvA K tA ρ Ra)
    (k : ∀ es, Ra es → ∃ a, args a = .ins C ns ds :: es ∧ pre a ∧ ∀ d, post a d → R d) : EvR K (tMeth C m (spF K args pre post) [] E0 ta tA) ρ R := fun σ G H Hb e E Q q =>
  ho σ G H Hb e E _ fun v G1 H1 x g1 t1 r1 => by
    subst r1
    obtain ⟨a, dx, vs, rfl, h2, h3, h4⟩ := dt_ins.mp t1
    refine ⟨a, dx, _, rfl, g1.gh _ _ h2, zip_lookup_none hm, h σ G1 H1 Hb g1.gh (E.grow g1) _ fun us G2 H2 es g2 t2 r2 => ?_⟩
    obtain ⟨w, e1, p, po⟩ := k es r2
    rw [List.append_nil]
    exact ⟨w, G2, g2.gh, by rw [e1]; exact .cons' (t1.mono g2.gg) t2, p, fun v G3 H3 d g3 t3 r3 => q v G3 H3 d ((g1.trans g2).trans g3) t3 (po d r3)⟩
theorem ev_make {C : Addr} {ns : List Str} {A : Type} {args : A → List D} {pre : A → Prop} {post : A → List D → Prop} {Ra : List D → Prop} (h : EvA K tA ρ Ra)
    (k : ∀ es, Ra es → ∃ a, args a = es ∧ pre a ∧ ∀ fs, post a fs → R (.ins C ns fs)) : EvR K (tMake C (spI K C ns args pre post) [] E0 tA) ρ R := fun σ G H Hb e E Q q =>
  h σ G H Hb e E _ fun us G1 H1 es g1 t1 r1 x dx nx ndx ne => by
    obtain ⟨a, e1, p, po⟩ := k es r1
    rw [List.append_nil]
    have sH : Same H1 (upd (upd H1 dx (.own x)) x (.ins C dx [])) := fun b o hb => by
      rw [upd_ne (ne_of_none hb nx), upd_ne (ne_of_none hb ndx)]; exact hb
    refine ⟨a, G1, x, dx, us, rfl, upd_same, g1.gh.trans sH, Same.free g1.gh nx, by rw [e1]; exact t1, p, fun G2 H2 fs vs dx' k1 k2 k3 k4 k5 k6 k7 k8 k9 => ⟨rfl, ?_⟩⟩
    have g2 : Grow G1 H1 G2 H2 := ⟨k1, fun b o hb => k2 b o (ne_of_none hb nx) (sH b o hb), k3, fun b h1 h2 => k4 b h1 (by
      cases c : H1 b with
      | none => exact absurd c h2
      | some o => rw [sH b o c]; exact fun z => nomatch z)⟩
    exact q _ _ _ _ ((g1.trans g2).know (Same.free g1.hh nx) k6) (dt_ins.mpr ⟨x, dx', vs, rfl, upd_same, k7, k8.mono (same_upd (.inl k5))⟩) (po fs k9)

/-! ### a def keeps its promise -/
def rho0 (N : List Str) (ds : List D) : Rho := ds.map (fun d => some (.p d)) ++ List.replicate (N.length - ds.length) none
theorem start_ok {G H : Hp} {N : List Str} {ds : List D} {vs : List V} (t : DTs K G ds vs) : EnvOk K G H H (L2.start N vs) (rho0 N ds) := by
  have lv := t.length
  refine ⟨fun j s e => ?_, fun j k s t a e1 e2 h1 h2 => ?_, ?_⟩
  · unfold rho0 at e
    by_cases c : j < ds.length
    · rw [List.getElem?_append_left (by simpa using c), List.getElem?_map] at e
      cases q : ds[j]? with
      | none => rw [q] at e; cases e
      | some d =>
        rw [q] at e
        cases e
        obtain ⟨v, hv, tv⟩ := t.get q
        refine ⟨v, ?_, tv⟩
        unfold L2.start
        rw [List.getElem?_append_left (by rw [List.length_map]; omega), List.getElem?_map, hv] <;> rfl
    · rw [List.getElem?_append_right (by simpa using c)] at e
      have := List.mem_of_getElem? e
      rw [List.mem_replicate] at this
      cases this.2
  · unfold rho0 at e1
    by_cases c : j < ds.length
    · rw [List.getElem?_append_left (by simpa using c), List.getElem?_map] at e1
      cases q : ds[j]? with
      | none => rw [q] at e1; cases e1
      | some d => rw [q] at e1; cases e1; cases h1
    · rw [List.getElem?_append_right (by simpa using c)] at e1
      have := List.mem_of_getElem? e1
      rw [List.mem_replicate] at this
      cases this.2
  · unfold L2.start rho0
    rw [List.length_append, List.length_append, List.length_map, List.length_map, List.length_replicate, List.length_replicate, lv]
/-- the context of a def's body -/
abbrev BX (P : Program) (w : World) (K : PySem.W.Frag) (mg : Str → Option Value) (base : Heap) (N : List Str) (qual : Str) (scope : Scope) (f : Addr) (cd : Value) (A : Around) (outer : List Env) (s : Shared) (H : Hp) (E : XK) : Cx :=
  (cxOf CX0 P w K mg base N qual scope f cd A outer s H E).nox
end
section
variable {P : Program} {w : World} {K : PySem.W.Frag} {mg : Str → Option Value} {base : Heap}
theorem fn_ok {x qual : Str} {params : Arguments} {body : List Stmt} {scope : Scope} {f : Addr} {fd : FuncData} {N ps : List Str} {k : Nat} {A : Type} {args : A → List D} {pre : A → Prop} {post : A → D → Prop}
    (F : FunD K x qual params body scope [] [] f fd) (S : FnScope N ps scope) (hl : ∀ a, (args a).length = ps.length)
    (hb : ∀ (cdv : Value) (A' : Around) (outer : List Env) (s : Shared) (H : Hp) (E : XK), Room k (A'.deeper (PyProof.Rows.envOfC qual scope s.heap.objs.size f cdv)) →
      ∃ t, PSs (BX P w K mg base N qual scope f cdv A' outer s H E) body t ∧ ∀ a, pre a → Run K t (rho0 N (args a)) { nx := fun _ => post a .non, rt := post a }) : FnOk P w K mg base CX0 (k + 1) f fd ps (spF K args pre post) := by
  refine F.ok S (fun vs H Q E h => ?_) (fun cdv A' outer s H vs Q E hr h => ?_)
  · obtain ⟨a, G, e, t, _⟩ := h
    rw [t.length, hl a]
  · obtain ⟨t, hp, run⟩ := hb cdv A' outer s H E hr
    obtain ⟨a, G, e, ta, p, q⟩ := h
    refine ⟨t, PSs.nox hp, run a p G H _ H _ ⟨G, .refl e, start_ok ta⟩ ?_ ?_ (fun _ _ _ z => z.elim) (fun _ _ _ z => z.elim)⟩
    · rintro σ' H' ρ' po ⟨G', g', _⟩
      exact q .non G' H' .non g' (dt_non.mpr rfl) po
    · rintro v H' G' d po g' t'
      exact q v G' H' d g' t' po
theorem init_ok {x qual : Str} {params : Arguments} {body : List Stmt} {scope : Scope} {f C : Addr} {fd : FuncData} {N ps : List Str} {ns : List Str} {k : Nat} {A : Type} {args : A → List D} {pre : A → Prop} {post : A → List D → Prop}
    (F : FunD K x qual params body scope [] [] f fd) (S : FnScope N ps scope) (hl : ∀ a, (args a).length + 1 = ps.length)
    (hb : ∀ (cdv : Value) (A' : Around) (outer : List Env) (s : Shared) (H : Hp) (E : XK), Room k (A'.deeper (PyProof.Rows.envOfC qual scope s.heap.objs.size f cdv)) →
      ∃ t, PSs (BX P w K mg base N qual scope f cdv A' outer s H E) body t ∧ ∀ a, pre a → ∀ x, Run K t (some (.i x C [] []) :: (rho0 N (.non :: args a)).tail) { nx := fun ρ' => ∃ fs, ρ'[0]? = some (some (.i x C ns fs)) ∧ ns.length = fs.length ∧ post a fs }) : FnOk P w K mg base CX0 (k + 1) f fd ps (spI K C ns args pre post) := by
  refine F.ok S (fun vs H Q E h => ?_) (fun cdv A' outer s H vs Q E hr h => ?_)
  · obtain ⟨a, G, x, dx, us, rfl, hx, e, nx, t, _⟩ := h
    rw [List.length_cons, t.length, hl a]
  · obtain ⟨t, hp, run⟩ := hb cdv A' outer s H E hr
    obtain ⟨a, G, x, dx, us, rfl, hx, e, nx, ta, p, q⟩ := h
    -- the base: all but the new instance
    have eb : Same G (fun b => if b = x then none else H b) := fun b o hb => by
      have : b ≠ x := fun z => by rw [z, nx] at hb; cases hb
      show (if b = x then none else H b) = some o
      rw [if_neg this]; exact e b o hb
    have bh : Same (fun b => if b = x then none else H b) H := fun b o hb => by
      by_cases c : b = x
      · have hb' : (if b = x then none else H b) = some o := hb
        rw [if_pos c] at hb'; cases hb'
      · have hb' : (if b = x then none else H b) = some o := hb
        rw [if_neg c] at hb'; exact hb'
    have E0' := start_ok (K := K) (G := G) (H := H) (N := N) (ds := .non :: args a) (vs := .non :: us) (.cons' (dt_non.mpr rfl) ta)
    have lR : (rho0 N (.non :: args a)) = some (.p .non) :: (rho0 N (.non :: args a)).tail := rfl
    have lS : L2.start N (.ref x :: us) = some (.ref x) :: (L2.start N (.non :: us)).tail := rfl
    have E1 : EnvOk K G H (fun b => if b = x then none else H b) (L2.start N (.ref x :: us)) (some (.i x C [] []) :: (rho0 N (.non :: args a)).tail) := by
      have pure_tail : ∀ (j : Nat) (s : Sl), (rho0 N (.non :: args a))[j]? = some (some s) → ∃ d, s = .p d := fun j s e1 => by
        unfold rho0 at e1
        by_cases c : j < (D.non :: args a).length
        · rw [List.getElem?_append_left (by simpa using c), List.getElem?_map] at e1
          cases q : (D.non :: args a)[j]? with
          | none => rw [q] at e1; cases e1
          | some d => rw [q] at e1; cases e1; exact ⟨d, rfl⟩
        · rw [List.getElem?_append_right (by simpa using c)] at e1
          have := List.mem_of_getElem? e1
          rw [List.mem_replicate] at this
          cases this.2
      refine ⟨fun j s e1 => ?_, fun j k s t b e1 e2 h1 h2 => ?_, ?_⟩
      · cases j with
        | zero =>
          cases e1
          exact ⟨.ref x, rfl, rfl, if_pos rfl, nx, rfl, dx, [], hx, .nil'⟩
        | succ j =>
          have e3 : (rho0 N (.non :: args a))[j + 1]? = some (some s) := e1
          obtain ⟨v, h1, h2⟩ := E0'.sl (j + 1) s e3
          obtain ⟨d, rfl⟩ := pure_tail _ _ e3
          exact ⟨v, h1, h2⟩
      · cases j with
        | zero =>
          cases k with
          | zero => rfl
          | succ k =>
            obtain ⟨d, rfl⟩ := pure_tail (k + 1) t e2
            cases h2
        | succ j =>
          obtain ⟨d, rfl⟩ := pure_tail (j + 1) s e1
          cases h1
      · exact E0'.len
    refine ⟨t, PSs.nox hp, run a p x G (fun b => if b = x then none else H b) _ H _ ⟨G, ⟨Same.refl _, bh, e, fun _ z _ => z⟩, E1⟩ ?_ (fun _ _ _ _ z => z.elim) (fun _ _ _ z => z.elim) (fun _ _ _ z => z.elim)⟩
    rintro σ' H' ρ' ⟨fs, hf, hn, po⟩ ⟨G', g', E'⟩
    obtain ⟨v, h1, rfl, h2, h3, h4, dx', vs, h5, h6⟩ := E'.sl 0 _ hf
    refine q G' H' fs vs dx' g'.gg (fun b o hb hh => g'.hh b o (by show (if b = x then none else H b) = some o; rw [if_neg hb]; exact hh)) g'.gh (fun b n1 n2 => ?_) h3 h5 hn h6 po
    by_cases c : b = x
    · rw [c]; exact h3
    · exact g'.fr b n1 (by show (if b = x then none else H b) ≠ none; rw [if_neg c]; exact n2)
end
end Kt
end
section
set_option Elab.async false
set_option linter.all false
set_option maxRecDepth 100000
set_option maxHeartbeats 4000000
set_option autoImplicit false
/-! Ty: the facts that the walks lean on; calls by packed promises. -/
namespace Tx
open PySem L2 Kr Kt
abbrev cComes (K : PySem.W.Frag) : Addr := He.ga K "Comes"
abbrev cMode (K : PySem.W.Frag) : Addr := He.ga K "Mode"
abbrev cThing (K : PySem.W.Frag) : Addr := He.ga K "Thing"
abbrev cFalls (K : PySem.W.Frag) : Addr := He.ga K "Falls"
structure Txt (K : PySem.W.Frag) (mg : Str → Option Value) : Prop where
  m_isinstance : mg "isinstance" = none
  m_int : mg "int" = none
  m_bool : mg "bool" = none
  m_list : mg "list" = none
  m_tuple : mg "tuple" = none
  m_len : mg "len" = none
  m_zip : mg "zip" = none
  m_range : mg "range" = none
  m_enumerate : mg "enumerate" = none
  m_sum : mg "sum" = none
  m_max : mg "max" = none
  m_abs : mg "abs" = none
  m_all : mg "all" = none
  m_any : mg "any" = none
  c_MOST_NUMBERS : ∃ t, mg "MOST_NUMBERS" = some (.int 3 t)
  c_MOST_PUSHES : ∃ t, mg "MOST_PUSHES" = some (.int 6 t)
  c_MOST_MODES : ∃ t, mg "MOST_MODES" = some (.int 40 t)
  mg_Comes : mg "Comes" = some (.ref (cComes K))
  cl_Comes : Cls K (cComes K)
  n_Comes_start : NoAttr K (cComes K) "start"
  n_Comes_goal : NoAttr K (cComes K) "goal"
  n_Comes_turns : NoAttr K (cComes K) "turns"
  mg_Mode : mg "Mode" = some (.ref (cMode K))
  cl_Mode : Cls K (cMode K)
  n_Mode_rows : NoAttr K (cMode K) "rows"
  n_Mode_nexts : NoAttr K (cMode K) "nexts"
  n_Mode_steer : NoAttr K (cMode K) "steer"
  n_Mode_push : NoAttr K (cMode K) "push"
  n_Mode_add : NoAttr K (cMode K) "add"
  n_Mode_divisor : NoAttr K (cMode K) "divisor"
  mg_Thing : mg "Thing" = some (.ref (cThing K))
  cl_Thing : Cls K (cThing K)
  n_Thing_many : NoAttr K (cThing K) "many"
  n_Thing_bounds : NoAttr K (cThing K) "bounds"
  n_Thing_ways : NoAttr K (cThing K) "ways"
  mg_Falls : mg "Falls" = some (.ref (cFalls K))
  cl_Falls : Cls K (cFalls K)
  n_Falls_room : NoAttr K (cFalls K) "room"
  n_Falls_starts : NoAttr K (cFalls K) "starts"
  n_Falls_steps : NoAttr K (cFalls K) "steps"
  n_Falls_measure : NoAttr K (cFalls K) "measure"
  n_Falls_step : NoAttr K (cFalls K) "step"
  n_Falls_top : NoAttr K (cFalls K) "top"
  n_Falls_falls : NoAttr K (cFalls K) "falls"
  n_Falls_floors : NoAttr K (cFalls K) "floors"
  n_Falls_tops : NoAttr K (cFalls K) "tops"
  is_Mode : IsC K (cMode K)
  is_Comes : IsC K (cComes K)
theorem bt_len : bootBuiltins "len" = some (.builtin "len") := by decide +kernel
theorem bt_isinstance : bootBuiltins "isinstance" = some (.builtin "isinstance") := by decide +kernel
theorem bt_sum : bootBuiltins "sum" = some (.builtin "sum") := by decide +kernel
theorem bt_max : bootBuiltins "max" = some (.builtin "max") := by decide +kernel
theorem bt_abs : bootBuiltins "abs" = some (.builtin "abs") := by decide +kernel
theorem bt_all : bootBuiltins "all" = some (.builtin "all") := by decide +kernel
theorem bt_any : bootBuiltins "any" = some (.builtin "any") := by decide +kernel
theorem bt_int : bootBuiltins "int" = some (.type "int") := by decide +kernel
theorem bt_bool : bootBuiltins "bool" = some (.type "bool") := by decide +kernel
theorem bt_list : bootBuiltins "list" = some (.type "list") := by decide +kernel
theorem bt_tuple : bootBuiltins "tuple" = some (.type "tuple") := by decide +kernel
/-- a def of the module, with its promise -/
structure Cal (P : Program) (w : World) (K : PySem.W.Frag) (mg : Str → Option Value) (base : Heap) (x : Str) (k : Nat) (ps : List Str) (sp : Sp) : Prop where
  ex : ∃ f fd, mg x = some (.ref f) ∧ FnOk P w K mg base CX0 k f fd ps sp ∧ PySem.W.keepIn K (.ref f) = true ∧ Binds K fd ps []
structure CalM (P : Program) (w : World) (K : PySem.W.Frag) (mg : Str → Option Value) (base : Heap) (C : Addr) (m : Str) (k : Nat) (ps : List Str) (sp : Sp) : Prop where
  ex : ∃ f fd, Cls K C ∧ Meth K C m f ∧ FnOk P w K mg base CX0 k f fd ps sp ∧ Binds K fd ps []
structure CalI (P : Program) (w : World) (K : PySem.W.Frag) (mg : Str → Option Value) (base : Heap) (x : Str) (C : Addr) (k : Nat) (ps : List Str) (sp : Sp) : Prop where
  ex : ∃ f fd, Mk K C f ∧ mg x = some (.ref C) ∧ FnOk P w K mg base CX0 k f fd ps sp ∧ Binds K fd ps []
section
variable {X : Cx} {x m : Str} {k : Nat} {ps : List Str} {sp : Sp} {e o : Expr} {es : List Expr} {t : TA} {ta : TE} {p pos apos : Pos} {C : Addr}
theorem pe_cal (c : Cal X.prog X.w X.K X.mg X.base x k ps sp) (hr : Room k X.A) (hg : Gl X x) (ha : PA X (e :: es) t)
    (hdb : (x == ("__debug__" : Str)) = false := by decide) (he : starEach (e :: es) X.env = (false, eval e X.env) :: starEach es X.env := by rfl) (hpl : (backTo pos (starEach es X.env)).any (·.1) = false := by rfl) :
    PE X (.Call (.Name x p) (e :: es) [] pos) (tCall sp [] E0 t) := by
  obtain ⟨f, fd, h1, h2, h3, h4⟩ := c.ex
  exact pe_call h2 hr hg h1 h3 h4 .nil pass0 ha hdb he hpl
theorem pe_mt {pl : Sem Bool} (c : CalM X.prog X.w X.K X.mg X.base C m k ps sp) (hr : Room k X.A) (ho : PE X o ta) (ha : PA X (e :: es) t)
    (hst : starEach (e :: es) X.env = (false, eval e X.env) :: starEach es X.env := by rfl) (hpl : (backTo pos (starEach es X.env)).any (·.1) = false := by rfl)
    (ht : eval (.Call (.Attribute o m apos) (e :: es) [] pos) X.env = (do
      let ov ← eval o X.env
      standAt apos.atName
      let (f, first) ← holding [ov] (getMethod ov m pl)
      callWith pos f first (backTo pos (starEach (e :: es) X.env)) (backToKw pos (keywordEach [] X.env))) := by rfl) :
    PE X (.Call (.Attribute o m apos) (e :: es) [] pos) (tMeth C m sp [] E0 ta t) := by
  obtain ⟨f, fd, h1, h2, h3, h4⟩ := c.ex
  exact pe_meth ho h1 h2 h3 hr h4 .nil pass0 ha hst hpl ht
theorem pe_mt0 {pl : Sem Bool} (c : CalM X.prog X.w X.K X.mg X.base C m k ps sp) (hr : Room k X.A) (ho : PE X o ta)
    (ht : eval (.Call (.Attribute o m apos) [] [] pos) X.env = (do
      let ov ← eval o X.env
      standAt apos.atName
      let (f, first) ← holding [ov] (getMethod ov m pl)
      callWith pos f first (backTo pos (starEach [] X.env)) (backToKw pos (keywordEach [] X.env))) := by rfl) :
    PE X (.Call (.Attribute o m apos) [] [] pos) (tMeth C m sp [] E0 ta tNil) := by
  obtain ⟨f, fd, h1, h2, h3, h4⟩ := c.ex
  exact pe_meth0 ho h1 h2 h3 hr h4 .nil pass0 ht
theorem pe_mk (c : CalI X.prog X.w X.K X.mg X.base x C k ps sp) (hr : Room (k + 1) X.A) (hg : Gl X x) (ha : PA X (e :: es) t)
    (hdb : (x == ("__debug__" : Str)) = false := by decide) (he : starEach (e :: es) X.env = (false, eval e X.env) :: starEach es X.env := by rfl) (hpl : (backTo pos (starEach es X.env)).any (·.1) = false := by rfl) :
    PE X (.Call (.Name x p) (e :: es) [] pos) (tMake C sp [] E0 t) := by
  obtain ⟨f, fd, h1, h2, h3, h4⟩ := c.ex
  exact pe_make h1 h3 hr hg h2 h4 .nil pass0 ha hdb he hpl
end
section
variable {X : Cx} {K : PySem.W.Frag} {e e2 tg o : Expr} {es : List Expr} {te tl : TE} {ta : TA} {f : Str} {p pos tpos : Pos} {elts : List Expr} {kk n : Nat} {t : TGs}
theorem ix_K (h : X.K = K) : IxR X (rIxX K) := h ▸ ix_X
theorem sl_K (h : X.K = K) : SlR X (rSlX K) := h ▸ sl_X
theorem add_K (h : X.K = K) : OpR X (binaryOp .Add) (rAddX K) := h ▸ op_addX
theorem mul_K (h : X.K = K) : OpR X (binaryOp .Mult) (rMulX K) := h ▸ op_mulX
theorem eq_K (h : X.K = K) (hu : X.A.units + 64 < cLine) : OpR X (compareOp .Eq) (rEqX K) := h ▸ op_eqX hu
theorem ne_K (h : X.K = K) (hu : X.A.units + 64 < cLine) : OpR X (compareOp .NotEq) (rNeX K) := h ▸ op_neX hu
theorem len_K (h : X.K = K) : CallR X (.builtin "len") (rLenX K) := h ▸ call_len_seq
theorem isi_K (h : X.K = K) : CallR X (.builtin "isinstance") (rIsi K) := h ▸ call_isi
theorem sum_K (h : X.K = K) (hc : X.calm = true) : CallR X (.builtin "sum") (rSum K) := h ▸ cr_sum hc
theorem all_K (h : X.K = K) (hc : X.calm = true) : CallR X (.builtin "all") (rAll K) := h ▸ cr_all hc
theorem any_K (h : X.K = K) (hc : X.calm = true) : CallR X (.builtin "any") (rAny K) := h ▸ cr_any hc
theorem list_K (h : X.K = K) : CallR X (.type "list") (rListX K) := h ▸ call_list_of
theorem tuple_K (h : X.K = K) : CallR X (.type "tuple") (rTupleX K) := h ▸ call_tuple_of
theorem fld_K (h : X.K = K) (he : PE X e te) (hb : attributeBase e f X.env (eval e X.env) = eval e X.env) : PE X (.Attribute e f pos) (tFld K te f) := h ▸ pe_fld he hb
theorem seq_K (h : X.K = K) (hl : PE X e tl) : PI X tg e (iSeq K tl) := h ▸ pi_seq hl
theorem zip_K (h : X.K = K) (hg : Gl X "zip") (hm : X.mg "zip" = none) (ha : PA X [e, e2] ta) (hs : starEach [e, e2] X.env = (false, eval e X.env) :: starEach [e2] X.env := by rfl) (hpl : (backTo pos (starEach [e2] X.env)).any (·.1) = false := by rfl) :
    PI X (.Tuple elts kk tpos) (.Call (.Name "zip" p) [e, e2] [] pos) (iZipB K ta) := h ▸ pi_zipB hg hm ha hs hpl
theorem enum_K (h : X.K = K) (hg : Gl X "enumerate") (hm : X.mg "enumerate" = none) (ha : PA X [e] ta) (hs : starEach [e] X.env = [(false, eval e X.env)] := by rfl) :
    PI X (.Tuple elts kk tpos) (.Call (.Name "enumerate" p) [e] [] pos) (iEnum K ta) := h ▸ pi_enum hg hm ha hs
theorem tup_K (h : X.K = K) (hc : X.calm = true) (hp : PGs X es t) (hn : (assignEach es X.env).length = n := by rfl) (hst : (assignEach es X.env).findIdx? (·.1) = none := by rfl) : PG X (.Tuple es kk pos) (gTup K n t) := h ▸ pg_tup hc hp hn hst
theorem unl_K (h : X.K = K) (hc : X.calm = true) (hp : PGs X es t) (hn : (assignEach es X.env).length = n := by rfl) (hst : (assignEach es X.env).findIdx? (·.1) = none := by rfl) : PG X (.Tuple es kk pos) (gUnl K n t) := h ▸ pg_unl hc hp hn hst
end
theorem sc_check_closed : FnScope ["thing"] ["thing"] (defScope scheck_closed) := ⟨rfl, rfl, rfl, by decide +kernel, rfl, by decide +kernel, by decide +kernel⟩
theorem sc_Comes_init : FnScope ["self", "start", "goal", "turns"] ["self", "start", "goal", "turns"] (defScope sComes_init) := ⟨rfl, rfl, rfl, by decide +kernel, rfl, by decide +kernel, by decide +kernel⟩
theorem sc_is_whole : FnScope ["thing"] ["thing"] (defScope sis_whole) := ⟨rfl, rfl, rfl, by decide +kernel, rfl, by decide +kernel, by decide +kernel⟩
theorem sc_summed_by : FnScope ["numbers", "lists", "many", "found", "number", "some", "place"] ["numbers", "lists", "many"] (defScope ssummed_by) := ⟨rfl, rfl, rfl, by decide +kernel, rfl, by decide +kernel, by decide +kernel⟩
theorem sc_widened : FnScope ["rows", "many", "row"] ["rows", "many"] (defScope swidened) := ⟨rfl, rfl, rfl, by decide +kernel, rfl, by decide +kernel, by decide +kernel⟩
theorem sc_push_rows : FnScope ["thing", "pushes", "blank", "found", "at", "low", "high", "ahead"] ["thing"] (defScope spush_rows) := ⟨rfl, rfl, rfl, by decide +kernel, rfl, by decide +kernel, by decide +kernel⟩
theorem sc_standing : FnScope ["thing", "rows"] ["thing", "rows"] (defScope sstanding) := ⟨rfl, rfl, rfl, by decide +kernel, rfl, by decide +kernel, by decide +kernel⟩
theorem sc_reach : FnScope ["thing", "mode", "row", "numbers", "bound", "i"] ["thing", "mode", "row"] (defScope sreach) := ⟨rfl, rfl, rfl, by decide +kernel, rfl, by decide +kernel, by decide +kernel⟩
theorem sc_added : FnScope ["rows", "numbers", "many", "found", "row", "number", "k"] ["rows", "numbers", "many"] (defScope sadded) := ⟨rfl, rfl, rfl, by decide +kernel, rfl, by decide +kernel, by decide +kernel⟩
theorem sc_are_shares : FnScope ["thing", "many", "number"] ["thing", "many"] (defScope sare_shares) := ⟨rfl, rfl, rfl, by decide +kernel, rfl, by decide +kernel, by decide +kernel⟩
theorem sc_shows : FnScope ["rows", "target", "shares", "often", "numbers", "found", "share"] ["rows", "target", "shares"] (defScope sshows) := ⟨rfl, rfl, rfl, by decide +kernel, rfl, by decide +kernel, by decide +kernel⟩
theorem sc_own : FnScope ["thing", "one"] ["thing"] (defScope sown) := ⟨rfl, rfl, rfl, by decide +kernel, rfl, by decide +kernel, by decide +kernel⟩
theorem sc_own_list : FnScope ["thing"] ["thing"] (defScope sown_list) := ⟨rfl, rfl, rfl, by decide +kernel, rfl, by decide +kernel, by decide +kernel⟩
theorem sc_are_wholes : FnScope ["thing", "many", "one"] ["thing", "many"] (defScope sare_wholes) := ⟨rfl, rfl, rfl, by decide +kernel, rfl, by decide +kernel, by decide +kernel⟩
theorem sc_is_row : FnScope ["thing", "many", "one"] ["thing", "many"] (defScope sis_row) := ⟨rfl, rfl, rfl, by decide +kernel, rfl, by decide +kernel, by decide +kernel⟩
theorem sc_is_room : FnScope ["thing", "many", "row"] ["thing", "many"] (defScope sis_room) := ⟨rfl, rfl, rfl, by decide +kernel, rfl, by decide +kernel, by decide +kernel⟩
theorem sc_is_table : FnScope ["thing", "many", "wide", "one"] ["thing", "many", "wide"] (defScope sis_table) := ⟨rfl, rfl, rfl, by decide +kernel, rfl, by decide +kernel, by decide +kernel⟩
theorem sc_Mode_init : FnScope ["self", "rows", "nexts", "steer", "push", "add", "divisor"] ["self", "rows", "nexts", "steer", "push", "add", "divisor"] (defScope sMode_init) := ⟨rfl, rfl, rfl, by decide +kernel, rfl, by decide +kernel, by decide +kernel⟩
theorem sc_is_mode : FnScope ["thing", "many", "wide"] ["thing", "many", "wide"] (defScope sis_mode) := ⟨rfl, rfl, rfl, by decide +kernel, rfl, by decide +kernel, by decide +kernel⟩
theorem sc_is_push : FnScope ["thing"] ["thing"] (defScope sis_push) := ⟨rfl, rfl, rfl, by decide +kernel, rfl, by decide +kernel, by decide +kernel⟩
theorem sc_Thing_init : FnScope ["self", "many", "pushes", "modes", "mode", "push"] ["self", "many", "pushes", "modes"] (defScope sThing_init) := ⟨rfl, rfl, rfl, by decide +kernel, rfl, by decide +kernel, by decide +kernel⟩
theorem sc_Thing_pushes : FnScope ["self"] ["self"] (defScope sThing_pushes) := ⟨rfl, rfl, rfl, by decide +kernel, rfl, by decide +kernel, by decide +kernel⟩
theorem sc_Thing_modes : FnScope ["self"] ["self"] (defScope sThing_modes) := ⟨rfl, rfl, rfl, by decide +kernel, rfl, by decide +kernel, by decide +kernel⟩
theorem sc_Thing_is_closed : FnScope ["self", "mode"] ["self"] (defScope sThing_is_closed) := ⟨rfl, rfl, rfl, by decide +kernel, rfl, by decide +kernel, by decide +kernel⟩
theorem sc_kept : FnScope ["thing", "one"] ["thing"] (defScope skept) := ⟨rfl, rfl, rfl, by decide +kernel, rfl, by decide +kernel, by decide +kernel⟩
theorem sc_all_show : FnScope ["rows", "targets", "some", "target", "shares"] ["rows", "targets", "some"] (defScope sall_show) := ⟨rfl, rfl, rfl, by decide +kernel, rfl, by decide +kernel, by decide +kernel⟩
theorem sc_is_part : FnScope ["some", "many"] ["some", "many"] (defScope sis_part) := ⟨rfl, rfl, rfl, by decide +kernel, rfl, by decide +kernel, by decide +kernel⟩
theorem sc_steps_show : FnScope ["thing", "room", "after", "some", "modes", "mode", "shares", "rows", "row"] ["thing", "room", "after", "some"] (defScope ssteps_show) := ⟨rfl, rfl, rfl, by decide +kernel, rfl, by decide +kernel, by decide +kernel⟩
theorem sc_turned_about : FnScope ["row", "number"] ["row"] (defScope sturned_about) := ⟨rfl, rfl, rfl, by decide +kernel, rfl, by decide +kernel, by decide +kernel⟩
theorem sc_fall : FnScope ["thing", "mode", "measure", "step", "row", "i"] ["thing", "mode", "measure", "step"] (defScope sfall) := ⟨rfl, rfl, rfl, by decide +kernel, rfl, by decide +kernel, by decide +kernel⟩
theorem sc_Falls_init : FnScope ["self", "room", "starts", "steps", "measure", "step", "top", "falls", "floors", "tops"] ["self", "room", "starts", "steps", "measure", "step", "top", "falls", "floors", "tops"] (defScope sFalls_init) := ⟨rfl, rfl, rfl, by decide +kernel, rfl, by decide +kernel, by decide +kernel⟩
theorem sc_Falls_falls_by : FnScope ["self", "thing", "mode", "goal", "some", "target", "row", "shares", "rows"] ["self", "thing", "mode", "goal", "some"] (defScope sFalls_falls_by) := ⟨rfl, rfl, rfl, by decide +kernel, rfl, by decide +kernel, by decide +kernel⟩
theorem sc_Falls_is_high : FnScope ["self", "claim", "numbers", "target", "row", "shares", "number"] ["self", "claim"] (defScope sFalls_is_high) := ⟨rfl, rfl, rfl, by decide +kernel, rfl, by decide +kernel, by decide +kernel⟩
theorem sc_Falls_is_for : FnScope ["self", "thing", "claim", "mode", "some"] ["self", "thing", "claim"] (defScope sFalls_is_for) := ⟨rfl, rfl, rfl, by decide +kernel, rfl, by decide +kernel, by decide +kernel⟩
theorem sc_lets_by : FnScope ["thing", "claim", "paper"] ["thing", "claim", "paper"] (defScope slets_by) := ⟨rfl, rfl, rfl, by decide +kernel, rfl, by decide +kernel, by decide +kernel⟩
theorem sc__law_cell_at : FnScope ["_law_script", "_law_k"] ["_law_script", "_law_k"] (defScope s_law_cell_at) := ⟨rfl, rfl, rfl, by decide +kernel, rfl, by decide +kernel, by decide +kernel⟩
theorem sc__law_stream : FnScope ["_law_cell", "_law_many", "_law_found", "_law_number_here", "_law_k", "_law_rest"] ["_law_cell", "_law_many"] (defScope s_law_stream) := ⟨rfl, rfl, rfl, by decide +kernel, rfl, by decide +kernel, by decide +kernel⟩
theorem sc__law_divisor : FnScope ["_law_one", "_law_other_here"] ["_law_one", "_law_other_here"] (defScope s_law_divisor) := ⟨rfl, rfl, rfl, by decide +kernel, rfl, by decide +kernel, by decide +kernel⟩
theorem sc__law_lowest : FnScope ["_law_top_here", "_law_bottom", "_law_share"] ["_law_top_here", "_law_bottom"] (defScope s_law_lowest) := ⟨rfl, rfl, rfl, by decide +kernel, rfl, by decide +kernel, by decide +kernel⟩
theorem sc__law_plus : FnScope ["_law_one", "_law_other_here"] ["_law_one", "_law_other_here"] (defScope s_law_plus) := ⟨rfl, rfl, rfl, by decide +kernel, rfl, by decide +kernel, by decide +kernel⟩
theorem sc__law_along : FnScope ["_law_numbers", "_law_values", "_law_found", "_law_number_here", "_law_value"] ["_law_numbers", "_law_values"] (defScope s_law_along) := ⟨rfl, rfl, rfl, by decide +kernel, rfl, by decide +kernel, by decide +kernel⟩
theorem sc__law_holds : FnScope ["_law_row", "_law_point_here", "_law_value"] ["_law_row", "_law_point_here"] (defScope s_law_holds) := ⟨rfl, rfl, rfl, by decide +kernel, rfl, by decide +kernel, by decide +kernel⟩
theorem sc__law_lies : FnScope ["_law_room", "_law_point_here", "_law_row"] ["_law_room", "_law_point_here"] (defScope s_law_lies) := ⟨rfl, rfl, rfl, by decide +kernel, rfl, by decide +kernel, by decide +kernel⟩
theorem sc__law_number : FnScope ["_law_x", "_law_far"] ["_law_x", "_law_far"] (defScope s_law_number) := ⟨rfl, rfl, rfl, by decide +kernel, rfl, by decide +kernel, by decide +kernel⟩
theorem sc__law_made : FnScope ["_law_spec", "_law_many", "_law_pushes", "_law_modes", "_law_unit", "_law_some", "_law_rows_here", "_law_nexts", "_law_steer", "_law_push", "_law_add", "_law_divisor_here", "_law_lists", "_law_one"] ["_law_spec"] (defScope s_law_made) := ⟨rfl, rfl, rfl, by decide +kernel, rfl, by decide +kernel, by decide +kernel⟩
theorem sc__law_box : FnScope ["_law_cell", "_law_many", "_law_unit", "_law_xs", "_law_box_here", "_law_i", "_law_low"] ["_law_cell", "_law_many", "_law_unit"] (defScope s_law_box) := ⟨rfl, rfl, rfl, by decide +kernel, rfl, by decide +kernel, by decide +kernel⟩
theorem sc__law_rows : FnScope ["_law_box_here", "_law_rows_here", "_law_i", "_law_ones", "_law_j", "_law_one"] ["_law_box_here"] (defScope s_law_rows) := ⟨rfl, rfl, rfl, by decide +kernel, rfl, by decide +kernel, by decide +kernel⟩
theorem sc__law_point : FnScope ["_law_cell", "_law_box_here", "_law_xs", "_law_parts", "_law_point_here", "_law_k", "_law_low", "_law_high", "_law_share"] ["_law_cell", "_law_box_here"] (defScope s_law_point) := ⟨rfl, rfl, rfl, by decide +kernel, rfl, by decide +kernel, by decide +kernel⟩
theorem sc__law_top : FnScope ["_law_numbers", "_law_box_here", "_law_found", "_law_number_here", "_law_bounds"] ["_law_numbers", "_law_box_here"] (defScope s_law_top) := ⟨rfl, rfl, rfl, by decide +kernel, rfl, by decide +kernel, by decide +kernel⟩
theorem sc__law_both : FnScope ["_law_numbers", "_law_found", "_law_number_here"] ["_law_numbers"] (defScope s_law_both) := ⟨rfl, rfl, rfl, by decide +kernel, rfl, by decide +kernel, by decide +kernel⟩
theorem sc__law_drift : FnScope ["_law_script", "_law_first", "_law_xs", "_law_unit", "_law_many", "_law_goal", "_law_pushes", "_law_k", "_law_often", "_law_step", "_law_modes", "_law_i"] ["_law_script"] (defScope s_law_drift) := ⟨rfl, rfl, rfl, by decide +kernel, rfl, by decide +kernel, by decide +kernel⟩
theorem sc__law_drift_mode : FnScope ["_law_xs", "_law_goal", "_law_pushes", "_law_often", "_law_step", "_law_many", "_law_divisor_here", "_law_push", "_law_i", "_law_pushed_here", "_law_worst_push", "_law_size", "_law_far", "_law_nexts", "_law_rows_here", "_law_row", "_law_j", "_law_c", "_law_low", "_law_high"] ["_law_xs", "_law_goal", "_law_pushes", "_law_often", "_law_step"] (defScope s_law_drift_mode) := ⟨rfl, rfl, rfl, by decide +kernel, rfl, by decide +kernel, by decide +kernel⟩
theorem sc__law_pushed : FnScope ["_law_spec", "_law_mode", "_law_numbers", "_law_rows_here", "_law_nexts", "_law_steer", "_law_push", "_law_add", "_law_divisor_here", "_law_j", "_law_i"] ["_law_spec", "_law_mode", "_law_numbers"] (defScope s_law_pushed) := ⟨rfl, rfl, rfl, by decide +kernel, rfl, by decide +kernel, by decide +kernel⟩
theorem sc__law_falling : FnScope ["_law_spec", "_law_goal", "_law_often", "_law_step", "_law_cell", "_law_xs", "_law_box_here", "_law_bound", "_law_slack", "_law_measure", "_law_top_here", "_law_turns", "_law_aims", "_law_room", "_law_c"] ["_law_spec", "_law_goal", "_law_often", "_law_step", "_law_cell"] (defScope s_law_falling) := ⟨rfl, rfl, rfl, by decide +kernel, rfl, by decide +kernel, by decide +kernel⟩
theorem sc__law_fall_parts : FnScope ["_law_spec", "_law_goal", "_law_often", "_law_step", "_law_told", "_law_box_here", "_law_room", "_law_aims", "_law_measure", "_law_top_here", "_law_turns", "_law_starts", "_law_steps", "_law_falls", "_law_mode", "_law_floors", "_law_tops", "_law_found", "_law_none", "_law_some", "_law_row"] ["_law_spec", "_law_goal", "_law_often", "_law_step", "_law_told"] (defScope s_law_fall_parts) := ⟨rfl, rfl, rfl, by decide +kernel, rfl, by decide +kernel, by decide +kernel⟩
theorem sc__law_behind : FnScope ["_law_mode", "_law_point_here", "_law_steering", "_law_pushes", "_law_rows_here", "_law_nexts", "_law_steer", "_law_push", "_law_add", "_law_divisor_here", "_law_found", "_law_i", "_law_value"] ["_law_mode", "_law_point_here", "_law_steering", "_law_pushes"] (defScope s_law_behind) := ⟨rfl, rfl, rfl, by decide +kernel, rfl, by decide +kernel, by decide +kernel⟩
theorem sc__law_run : FnScope ["_law_spec", "_law_point_here", "_law_cells", "_law_many", "_law_pushes", "_law_modes", "_law_unit", "_law_points", "_law_cell", "_law_ways", "_law_mode", "_law_drawn"] ["_law_spec", "_law_point_here", "_law_cells"] (defScope s_law_run) := ⟨rfl, rfl, rfl, by decide +kernel, rfl, by decide +kernel, by decide +kernel⟩
theorem sc__law_other : FnScope ["_law_shares", "_law_cell", "_law_often", "_law_numbers", "_law_way", "_law_at", "_law_other_here"] ["_law_shares", "_law_cell"] (defScope s_law_other) := ⟨rfl, rfl, rfl, by decide +kernel, rfl, by decide +kernel, by decide +kernel⟩
theorem sc__law_changed : FnScope ["_law_some", "_law_cell", "_law_at"] ["_law_some", "_law_cell"] (defScope s_law_changed) := ⟨rfl, rfl, rfl, by decide +kernel, rfl, by decide +kernel, by decide +kernel⟩
theorem sc__law_spoilt : FnScope ["_law_parts", "_law_cell", "_law_room", "_law_starts", "_law_steps", "_law_measure", "_law_step", "_law_top_here", "_law_falls", "_law_floors", "_law_tops", "_law_way", "_law_found"] ["_law_parts", "_law_cell"] (defScope s_law_spoilt) := ⟨rfl, rfl, rfl, by decide +kernel, rfl, by decide +kernel, by decide +kernel⟩
theorem sc_law : FnScope ["_law_script", "_law_spec", "_law_goal", "_law_often", "_law_step", "_law_told", "_law_parts", "_law_room", "_law_starts", "_law_steps", "_law_measure", "_law_top_here", "_law_falls", "_law_floors", "_law_tops", "_law_paper", "_law_box_here", "_law_aims", "_law_turns", "_law_points", "_law_point_here"] ["_law_script"] (defScope slaw) := ⟨rfl, rfl, rfl, by decide +kernel, rfl, by decide +kernel, by decide +kernel⟩
end Tx
end
section
set_option Elab.async false
set_option linter.all false
set_option maxRecDepth 100000
set_option maxHeartbeats 4000000
set_option autoImplicit false
/-! Sp: the data of the program in trees, and what each def promises. -/
namespace Tx
open PySem L2 Kr Kt

/-! ### data -/
abbrev dl (ns : List Int) : D := .lst (ns.map D.int)
abbrev dt (ns : List Int) : D := .tup (ns.map D.int)
abbrev room (rs : List (List Int)) : D := .lst (rs.map dt)
abbrev tbl (rs : List (List Int)) : D := .lst (rs.map dl)
abbrev prs (bs : List (Int × Int)) : D := .lst (bs.map fun b => .tup [.int b.1, .int b.2])
/-- ints below 2 ^ B, lists of at most 1000, at most n deep -/
def Ok (B : Nat) : Nat → D → Prop
  | _, .non => True
  | _, .bl _ => True
  | _, .int i => i.natAbs < 2 ^ B
  | n + 1, .lst xs => xs.length ≤ 1000 ∧ ∀ x ∈ xs, Ok B n x
  | n + 1, .tup xs => xs.length ≤ 1000 ∧ ∀ x ∈ xs, Ok B n x
  | _, _ => False
theorem Ok.ty {B n : Nat} {d : D} (h : Ok B n d) : tyD d ≠ "" := by
  cases d with
  | ins _ _ _ => cases n <;> exact h.elim
  | scr _ => cases n <;> exact h.elim
  | non => exact (by decide : "NoneType" ≠ "")
  | bl _ => exact (by decide : "bool" ≠ "")
  | int _ => exact (by decide : "int" ≠ "")
  | lst _ => exact (by decide : "list" ≠ "")
  | tup _ => exact (by decide : "tuple" ≠ "")
theorem Ok.lst {B n : Nat} {xs : List D} (h : Ok B n (.lst xs)) : xs.length ≤ 1000 ∧ ∃ m, n = m + 1 ∧ ∀ x ∈ xs, Ok B m x := by
  cases n with
  | zero => exact h.elim
  | succ m => exact ⟨h.1, m, rfl, h.2⟩
theorem Ok.tup {B n : Nat} {xs : List D} (h : Ok B n (.tup xs)) : xs.length ≤ 1000 ∧ ∃ m, n = m + 1 ∧ ∀ x ∈ xs, Ok B m x := by
  cases n with
  | zero => exact h.elim
  | succ m => exact ⟨h.1, m, rfl, h.2⟩
theorem ok_int {B n : Nat} {i : Int} (h : i.natAbs < 2 ^ B) : Ok B n (.int i) := by cases n <;> exact h
theorem Ok.int {B n : Nat} {i : Int} (h : Ok B n (.int i)) : i.natAbs < 2 ^ B := by cases n <;> exact h
/-- is it a list, a tuple, an int, a truth -/
def isL : D → Bool
  | .lst _ => true
  | _ => false
def isU : D → Bool
  | .tup _ => true
  | _ => false
def isI : D → Bool
  | .int _ => true
  | _ => false
def isIB : D → Bool
  | .int _ => true
  | .bl _ => true
  | _ => false
def isB : D → Bool
  | .bl _ => true
  | _ => false
theorem kb_NoneType_int : kitB "NoneType" "int" = some false := by decide +kernel
theorem kb_bool_int : kitB "bool" "int" = some true := by decide +kernel
theorem kb_int_int : kitB "int" "int" = some true := by decide +kernel
theorem kb_list_int : kitB "list" "int" = some false := by decide +kernel
theorem kb_tuple_int : kitB "tuple" "int" = some false := by decide +kernel
theorem kb_NoneType_bool : kitB "NoneType" "bool" = some false := by decide +kernel
theorem kb_bool_bool : kitB "bool" "bool" = some true := by decide +kernel
theorem kb_int_bool : kitB "int" "bool" = some false := by decide +kernel
theorem kb_list_bool : kitB "list" "bool" = some false := by decide +kernel
theorem kb_tuple_bool : kitB "tuple" "bool" = some false := by decide +kernel
theorem kb_NoneType_list : kitB "NoneType" "list" = some false := by decide +kernel
theorem kb_bool_list : kitB "bool" "list" = some false := by decide +kernel
theorem kb_int_list : kitB "int" "list" = some false := by decide +kernel
theorem kb_list_list : kitB "list" "list" = some true := by decide +kernel
theorem kb_tuple_list : kitB "tuple" "list" = some false := by decide +kernel
theorem kb_NoneType_tuple : kitB "NoneType" "tuple" = some false := by decide +kernel
theorem kb_bool_tuple : kitB "bool" "tuple" = some false := by decide +kernel
theorem kb_int_tuple : kitB "int" "tuple" = some false := by decide +kernel
theorem kb_list_tuple : kitB "list" "tuple" = some false := by decide +kernel
theorem kb_tuple_tuple : kitB "tuple" "tuple" = some true := by decide +kernel
theorem kit_int {d : D} (h : tyD d ≠ "") : kitB (tyD d) "int" = some (isIB d) := by
  cases d with
  | ins _ _ _ => exact absurd rfl h
  | scr _ => exact absurd rfl h
  | non => exact kb_NoneType_int
  | bl _ => exact kb_bool_int
  | int _ => exact kb_int_int
  | lst _ => exact kb_list_int
  | tup _ => exact kb_tuple_int
theorem kit_bool {d : D} (h : tyD d ≠ "") : kitB (tyD d) "bool" = some (isB d) := by
  cases d with
  | ins _ _ _ => exact absurd rfl h
  | scr _ => exact absurd rfl h
  | non => exact kb_NoneType_bool
  | bl _ => exact kb_bool_bool
  | int _ => exact kb_int_bool
  | lst _ => exact kb_list_bool
  | tup _ => exact kb_tuple_bool
theorem kit_list {d : D} (h : tyD d ≠ "") : kitB (tyD d) "list" = some (isL d) := by
  cases d with
  | ins _ _ _ => exact absurd rfl h
  | scr _ => exact absurd rfl h
  | non => exact kb_NoneType_list
  | bl _ => exact kb_bool_list
  | int _ => exact kb_int_list
  | lst _ => exact kb_list_list
  | tup _ => exact kb_tuple_list
theorem kit_tuple {d : D} (h : tyD d ≠ "") : kitB (tyD d) "tuple" = some (isU d) := by
  cases d with
  | ins _ _ _ => exact absurd rfl h
  | scr _ => exact absurd rfl h
  | non => exact kb_NoneType_tuple
  | bl _ => exact kb_bool_tuple
  | int _ => exact kb_int_tuple
  | lst _ => exact kb_list_tuple
  | tup _ => exact kb_tuple_tuple
/-- looks at a tree -/
def areIB (d : D) (n : Int) : Bool := match d with
  | .lst xs => decide ((xs.length : Int) = n) && xs.all isI
  | _ => false
def rowB (n : Int) (d : D) : Bool := match d with
  | .tup xs => decide ((xs.length : Int) = n + 1) && xs.all isI
  | _ => false
def roomB (n : Int) (d : D) : Bool := match d with
  | .lst xs => xs.all (rowB n)
  | _ => false
def tblB (d : D) (n m : Int) : Bool := match d with
  | .lst xs => decide ((xs.length : Int) = n) && xs.all fun x => areIB x m
  | _ => false
def partB (d : D) (n : Int) : Bool := match d with
  | .lst xs => decide ((xs.length : Int) = n)
  | _ => false

/-! ### modes, things -/
structure Md where
  rows : List (List Int)
  nexts : List (List Int)
  push : List (List Int)
  add : List Int
  div : Int
def nsMode : List Str := ["rows", "nexts", "steer", "push", "add", "divisor"]
def nsThing : List Str := ["many", "bounds", "ways"]
def nsComes : List Str := ["start", "goal", "turns"]
def nsFalls : List Str := ["room", "starts", "steps", "measure", "step", "top", "falls", "floors", "tops"]
abbrev zeros (n : Nat) : List Int := List.replicate n 0
abbrev mdF (n : Nat) (m : Md) : List D := [room m.rows, tbl m.nexts, dl (zeros n), tbl m.push, dl m.add, .int m.div]
def mdO (K : PySem.W.Frag) (n : Nat) (m : Md) : D := .ins (cMode K) nsMode (mdF n m)
structure Th where
  n : Nat
  ps : List (Int × Int)
  ms : List Md
def thO (K : PySem.W.Frag) (t : Th) : D := .ins (cThing K) nsThing [.int t.n, prs t.ps, .lst (t.ms.map (mdO K t.n))]
/-- ints below 2 ^ B -/
def Bd (B : Nat) (i : Int) : Prop := i.natAbs < 2 ^ B
structure WfMd (n p : Nat) (m : Md) : Prop where
  rl : m.rows.length ≤ 100
  rw : ∀ r ∈ m.rows, r.length = n + 1
  nl : m.nexts.length = n
  nw : ∀ r ∈ m.nexts, r.length = n
  pl : m.push.length = n
  pw : ∀ r ∈ m.push, r.length = p
  al : m.add.length = n
  dv : 1 ≤ m.div
  br : ∀ r ∈ m.rows, ∀ x ∈ r, Bd 1000 x
  bn : ∀ r ∈ m.nexts, ∀ x ∈ r, Bd 1000 x
  bp : ∀ r ∈ m.push, ∀ x ∈ r, Bd 1000 x
  ba : ∀ x ∈ m.add, Bd 1000 x
  bd : Bd 1000 m.div
  d7 : Bd 7 m.div
structure WfTh (t : Th) : Prop where
  n1 : 1 ≤ t.n
  n3 : t.n ≤ 3
  pl : t.ps.length ≤ 6
  po : ∀ b ∈ t.ps, b.1 ≤ b.2
  pb : ∀ b ∈ t.ps, Bd 1000 b.1 ∧ Bd 1000 b.2
  m1 : t.ms ≠ []
  ml : t.ms.length ≤ 40
  mw : ∀ m ∈ t.ms, WfMd t.n t.ps.length m

/-! ### promises: the looks -/
section
variable (K : PySem.W.Frag)
abbrev sp_is_whole : Sp := spF K (fun d : D => [d]) (fun d => tyD d ≠ "") (fun d r => r = .bl (isI d))
abbrev sp_is_part : Sp := spF K (fun a : D × Int => [a.1, .int a.2]) (fun a => tyD a.1 ≠ "") (fun a r => r = .bl (partB a.1 a.2))
abbrev sp_are_wholes : Sp := spF K (fun a : D × Int => [a.1, .int a.2]) (fun a => ∃ B n, Ok B n a.1) (fun a r => r = .bl (areIB a.1 a.2))
abbrev sp_is_row : Sp := spF K (fun a : D × Int => [a.1, .int a.2]) (fun a => ∃ B n, Ok B n a.1) (fun a r => r = .bl (rowB a.2 a.1))
abbrev sp_is_room : Sp := spF K (fun a : D × Int => [a.1, .int a.2]) (fun a => ∃ B n, Ok B n a.1) (fun a r => r = .bl (roomB a.2 a.1))
abbrev sp_is_table : Sp := spF K (fun a : D × Int × Int => [a.1, .int a.2.1, .int a.2.2]) (fun a => ∃ B n, Ok B n a.1) (fun a r => r = .bl (tblB a.1 a.2.1 a.2.2))
abbrev sp_is_mode : Sp := spF K (fun a : Md × Nat × Nat => [mdO K a.2.1 a.1, .int a.2.1, .int a.2.2]) (fun a => WfMd a.2.1 a.2.2 a.1 ∧ a.2.1 ≤ 3 ∧ a.2.2 ≤ 6) (fun a r => r = .bl true)
abbrev sp_is_push : Sp := spF K (fun a : Int × Int => [.tup [.int a.1, .int a.2]]) (fun a => a.1 ≤ a.2) (fun a r => r = .bl true)
abbrev sp_own_list : Sp := spF K (fun d : D => [d]) (fun d => ∃ B n, Ok B n d) (fun d r => r = d)
abbrev sp_own : Sp := spF K (fun d : D => [d]) (fun d => ∃ B n, Ok B n d) (fun d r => r = d)
abbrev sp_Mode_init : Sp := spI K (cMode K) nsMode (fun a : D × D × D × D × D × D => [a.1, a.2.1, a.2.2.1, a.2.2.2.1, a.2.2.2.2.1, a.2.2.2.2.2])
  (fun a => (∃ B n, Ok B n a.1) ∧ (∃ B n, Ok B n a.2.1) ∧ (∃ B n, Ok B n a.2.2.1) ∧ (∃ B n, Ok B n a.2.2.2.1) ∧ (∃ B n, Ok B n a.2.2.2.2.1))
  (fun a fs => fs = [a.1, a.2.1, a.2.2.1, a.2.2.2.1, a.2.2.2.2.1, a.2.2.2.2.2])
abbrev sp_Comes_init : Sp := spI K (cComes K) nsComes (fun a : List D × List D × D => [.lst a.1, .lst a.2.1, a.2.2]) (fun _ => True) (fun a fs => fs = [.lst a.1, .lst a.2.1, a.2.2])
abbrev sp_Thing_init : Sp := spI K (cThing K) nsThing (fun t : Th => [.int t.n, prs t.ps, .lst (t.ms.map (mdO K t.n))]) WfTh (fun t fs => fs = [.int t.n, prs t.ps, .lst (t.ms.map (mdO K t.n))])
abbrev sp_Thing_pushes : Sp := spF K (fun t : Th => [thO K t]) (fun _ => True) (fun t r => r = prs t.ps)
abbrev sp_Thing_modes : Sp := spF K (fun t : Th => [thO K t]) (fun _ => True) (fun t r => r = .lst (t.ms.map (mdO K t.n)))
abbrev sp_Thing_is_closed : Sp := spF K (fun t : Th => [thO K t]) WfTh (fun t r => r = .bl true)
abbrev sp_check_closed : Sp := spF K (fun t : Th => [thO K t]) WfTh (fun t r => r = .non)
end

/-! ### small lemmas -/
theorem all_mapD {α : Type} (f : α → D) (g : D → Bool) (xs : List α) (h : ∀ x ∈ xs, g (f x) = true) : (xs.map f).all g = true := by
  rw [List.all_map]
  exact List.all_eq_true.mpr fun x hx => h x hx
theorem ok_ints {B n : Nat} {ns : List Int} (hl : ns.length ≤ 1000) (h : ∀ x ∈ ns, Bd B x) : Ok B (n + 1) (dl ns) := ⟨by rw [List.length_map]; exact hl, fun x hx => by
  obtain ⟨i, hi, rfl⟩ := List.mem_map.mp hx
  exact ok_int (h i hi)⟩
theorem ok_intsT {B n : Nat} {ns : List Int} (hl : ns.length ≤ 1000) (h : ∀ x ∈ ns, Bd B x) : Ok B (n + 1) (dt ns) := ⟨by rw [List.length_map]; exact hl, fun x hx => by
  obtain ⟨i, hi, rfl⟩ := List.mem_map.mp hx
  exact ok_int (h i hi)⟩
theorem ok_room {B n : Nat} {rs : List (List Int)} (hl : rs.length ≤ 1000) (hw : ∀ r ∈ rs, r.length ≤ 1000) (h : ∀ r ∈ rs, ∀ x ∈ r, Bd B x) : Ok B (n + 2) (room rs) := ⟨by rw [List.length_map]; exact hl, fun x hx => by
  obtain ⟨r, hr, rfl⟩ := List.mem_map.mp hx
  exact ok_intsT (hw r hr) (h r hr)⟩
theorem ok_tbl {B n : Nat} {rs : List (List Int)} (hl : rs.length ≤ 1000) (hw : ∀ r ∈ rs, r.length ≤ 1000) (h : ∀ r ∈ rs, ∀ x ∈ r, Bd B x) : Ok B (n + 2) (tbl rs) := ⟨by rw [List.length_map]; exact hl, fun x hx => by
  obtain ⟨r, hr, rfl⟩ := List.mem_map.mp hx
  exact ok_ints (hw r hr) (h r hr)⟩
theorem rowB_dt {n : Nat} {r : List Int} (h : r.length = n + 1) : rowB n (dt r) = true := by
  show (decide (((r.map D.int).length : Int) = n + 1) && (r.map D.int).all isI) = true
  rw [List.length_map, h, all_mapD D.int isI r (fun _ _ => rfl), Bool.and_true]
  exact decide_eq_true (by omega)
theorem areIB_dl {n : Nat} {r : List Int} (h : r.length = n) : areIB (dl r) n = true := by
  show (decide (((r.map D.int).length : Int) = n) && (r.map D.int).all isI) = true
  rw [List.length_map, h, all_mapD D.int isI r (fun _ _ => rfl), Bool.and_true]
  exact decide_eq_true rfl
theorem roomB_room {n : Nat} {rs : List (List Int)} (h : ∀ r ∈ rs, r.length = n + 1) : roomB n (room rs) = true := all_mapD dt (rowB n) rs fun r hr => rowB_dt (h r hr)
theorem tblB_tbl {n m : Nat} {rs : List (List Int)} (hl : rs.length = n) (h : ∀ r ∈ rs, r.length = m) : tblB (tbl rs) n m = true := by
  show (decide (((rs.map dl).length : Int) = n) && (rs.map dl).all fun x => areIB x m) = true
  rw [List.length_map, hl, all_mapD dl _ rs (fun r hr => areIB_dl (h r hr)), Bool.and_true]
  exact decide_eq_true rfl
/-- all([f(x) for x in xs]), f told -/
theorem made_bls {f : D → Bool} {ds es : List D} (h : All2 (fun d e => e = .bl (f d)) ds es) : es = (ds.map f).map D.bl := by
  rw [h.map, List.map_map] <;> rfl
section
variable {K : PySem.W.Frag} {ρ : Rho} {te : TE} {f : D → Bool} {wi : TI} {g : TG} {vs js : List Nat} {ds : List D}
theorem ev_all (hi : EvI K wi ρ (fun x => x = ds)) (hz : ds.length ≤ 50000) (hj : ∀ j ∈ js, j ∈ vs)
    (hb : ∀ d, d ∈ ds → ∃ ρ1, Tgt K g js d (wipeR ρ vs) ρ1 ∧ EvD K te ρ1 (.bl (f d))) : EvD K (tCB (rAll K) (tCons (tLc wi g tYes te vs) tNil)) ρ (.bl (ds.all f)) := by
  have h := (ev_lcD (fun d => .bl (f d)) hi hz hj hb).toR
  refine (ev_allR (P := fun bs => bs = ds.map f) (h.mono fun d ⟨xs, e1, e2⟩ => ⟨ds.map f, ?_, rfl⟩)).mono fun d ⟨b, e1, ns, e2, e3⟩ => ?_
  · rw [e1, e2, List.map_map] <;> rfl
  · rw [e1, e2, e3, List.all_map] <;> rfl
end
end Tx
end
section
set_option Elab.async false
set_option linter.all false
set_option maxRecDepth 100000
set_option maxHeartbeats 4000000
set_option autoImplicit false
/-! W1: looks at trees, modes and things made. -/
namespace Tx
open PySem L2 Kr Kt
theorem lst_or (d : D) : (∃ xs, d = .lst xs) ∨ isL d = false := by
  cases d with
  | lst xs => exact .inl ⟨xs, rfl⟩
  | _ => exact .inr rfl
theorem tup_or (d : D) : (∃ xs, d = .tup xs) ∨ isU d = false := by
  cases d with
  | tup xs => exact .inl ⟨xs, rfl⟩
  | _ => exact .inr rfl
theorem partB_no {d : D} {n : Int} (h : isL d = false) : partB d n = false := by
  cases d with
  | lst xs => cases h
  | _ => rfl
theorem areIB_no {d : D} {n : Int} (h : isL d = false) : areIB d n = false := by
  cases d with
  | lst xs => cases h
  | _ => rfl
theorem roomB_no {d : D} {n : Int} (h : isL d = false) : roomB n d = false := by
  cases d with
  | lst xs => cases h
  | _ => rfl
theorem tblB_no {d : D} {n m : Int} (h : isL d = false) : tblB d n m = false := by
  cases d with
  | lst xs => cases h
  | _ => rfl
theorem rowB_no {d : D} {n : Int} (h : isU d = false) : rowB n d = false := by
  cases d with
  | tup xs => cases h
  | _ => rfl
/-- the first of an «and» falls -/
theorem ev_andF {K : PySem.W.Frag} {ρ : Rho} {ta tb : TE} {b : Bool} (h1 : EvD K ta ρ (.bl b)) (hb : b = false) : EvD K (tAndV ta tb) ρ (.bl false) := by
  subst hb
  exact ev_is (ev_andD (c := false) h1 fun h => nomatch h) rfl
section
variable {P : Program} {w : World} {K : PySem.W.Frag} {mg : Str → Option Value} {base : Heap} {f : Addr} {fd : FuncData}
theorem ok_is_whole (T : Txt K mg) (F : FunD K "is_whole" "is_whole" (defArgs sis_whole) (defBody sis_whole) (defScope sis_whole) [] [] f fd)  : FnOk P w K mg base CX0 1 f fd ["thing"] (sp_is_whole K) := by
  refine fn_ok F sc_is_whole (fun _ => rfl) (fun cdv A' outer s H E hr => ⟨_, (pss_one (ps_ret (pe_and (pe_callB (isi_K (K := K) rfl) rfl T.m_isinstance bt_isinstance (pa_cons (pv 0) (pa_cons (pe_bltn (v := .ty "int") rfl T.m_int bt_int rfl) pa_nil))) (pe_one (pe_not (pe_callB (isi_K (K := K) rfl) rfl T.m_isinstance bt_isinstance (pa_cons (pv 0) (pa_cons (pe_bltn (v := .ty "bool") rfl T.m_bool bt_bool rfl) pa_nil)))))))), ?_⟩)
  intro d hd
  refine r_retD (ev_andD (ev_isi hd (kit_int hd) (ev_var rfl)) fun _ => ev_notD (ev_isi hd (kit_bool hd) (ev_var rfl))) ?_
  cases d <;> rfl

theorem ok_is_part (T : Txt K mg) (F : FunD K "is_part" "is_part" (defArgs sis_part) (defBody sis_part) (defScope sis_part) [] [] f fd)  : FnOk P w K mg base CX0 1 f fd ["some", "many"] (sp_is_part K) := by
  refine fn_ok F sc_is_part (fun _ => rfl) (fun cdv A' outer s H E hr => ⟨_, (pss_one (ps_ret (pe_and (pe_callB (isi_K (K := K) rfl) rfl T.m_isinstance bt_isinstance (pa_cons (pv 0) (pa_cons (pe_bltn (v := .ty "list") rfl T.m_list bt_list rfl) pa_nil))) (pe_one (pe_cmpR (eq_K (K := K) rfl hr.units) (pe_callB (len_K (K := K) rfl) rfl T.m_len bt_len (pa_cons (pv 0) pa_nil)) (pv 1) (nomark _)))))), ?_⟩)
  rintro ⟨d, n⟩ hd
  rcases lst_or d with ⟨xs, rfl⟩ | hL
  · exact r_retD (ev_andD (ev_isi hd (kit_list hd) (ev_var rfl)) fun _ => ev_eqI (ev_len (ev_var rfl)) (ev_var rfl)) rfl
  · refine r_retD (ev_andF (ev_isi hd (kit_list hd) (ev_var rfl)) hL) ?_
    show D.bl false = D.bl (partB d n)
    rw [partB_no hL]

theorem ok_are_wholes (T : Txt K mg) (F : FunD K "are_wholes" "are_wholes" (defArgs sare_wholes) (defBody sare_wholes) (defScope sare_wholes) [] [] f fd) (k_is_whole : Cal P w K mg base "is_whole" 1 ["thing"] (sp_is_whole K)) : FnOk P w K mg base CX0 2 f fd ["thing", "many"] (sp_are_wholes K) := by
  refine fn_ok F sc_are_wholes (fun _ => rfl) (fun cdv A' outer s H E hr => ⟨_, (pss_one (ps_ret (pe_and (pe_callB (isi_K (K := K) rfl) rfl T.m_isinstance bt_isinstance (pa_cons (pv 0) (pa_cons (pe_bltn (v := .ty "list") rfl T.m_list bt_list rfl) pa_nil))) (pe_and (pe_cmpR (eq_K (K := K) rfl hr.units) (pe_callB (len_K (K := K) rfl) rfl T.m_len bt_len (pa_cons (pv 0) pa_nil)) (pv 1) (nomark _)) (pe_one (pe_callB (all_K (K := K) rfl rfl) rfl T.m_all bt_all (pa_cons (pe_lc (own := [("one", 2)]) rfl sc_are_wholes.nd (seq_K (K := K) rfl (pv 0)) (blkOk_by (by kernel_rfl)) (fun _ _ _ _ _ => (pg_name (i := 2) sc_are_wholes.nd rfl (Or.inl rfl))) (fun _ _ _ _ _ => pts_nil) (fun _ _ _ _ _ => (pe_cal k_is_whole (hr.mono (by decide)) rfl (pa_cons (pv 2) pa_nil)))) pa_nil))))))), ?_⟩)
  rintro ⟨d, n⟩ ⟨B, m, hd⟩
  rcases lst_or d with ⟨xs, rfl⟩ | hL
  · obtain ⟨hz, m', rfl, hx⟩ := hd.lst
    exact r_retD (ev_andD (ev_isi hd.ty (kit_list hd.ty) (ev_var rfl)) fun _ => ev_andD (ev_eqI (ev_len (ev_var rfl)) (ev_var rfl)) fun _ =>
      ev_all (f := isI) (ei_lst (ev_var rfl)) (by omega) (fun _ h => h) fun d hd => ⟨_, tg_name, ev_callD d (ea_consD (ev_var rfl) ea_nil) (hx d hd).ty⟩) rfl
  · refine r_retD (ev_andF (ev_isi hd.ty (kit_list hd.ty) (ev_var rfl)) hL) ?_
    show D.bl false = D.bl (areIB d n)
    rw [areIB_no hL]

theorem ok_is_row (T : Txt K mg) (F : FunD K "is_row" "is_row" (defArgs sis_row) (defBody sis_row) (defScope sis_row) [] [] f fd) (k_is_whole : Cal P w K mg base "is_whole" 1 ["thing"] (sp_is_whole K)) : FnOk P w K mg base CX0 2 f fd ["thing", "many"] (sp_is_row K) := by
  refine fn_ok F sc_is_row (fun _ => rfl) (fun cdv A' outer s H E hr => ⟨_, (pss_one (ps_ret (pe_and (pe_callB (isi_K (K := K) rfl) rfl T.m_isinstance bt_isinstance (pa_cons (pv 0) (pa_cons (pe_bltn (v := .ty "tuple") rfl T.m_tuple bt_tuple rfl) pa_nil))) (pe_and (pe_cmpR (eq_K (K := K) rfl hr.units) (pe_callB (len_K (K := K) rfl) rfl T.m_len bt_len (pa_cons (pv 0) pa_nil)) (pe_op (add_K (K := K) rfl) (pv 1) pe_int) (nomark _)) (pe_one (pe_callB (all_K (K := K) rfl rfl) rfl T.m_all bt_all (pa_cons (pe_lc (own := [("one", 2)]) rfl sc_is_row.nd (seq_K (K := K) rfl (pv 0)) (blkOk_by (by kernel_rfl)) (fun _ _ _ _ _ => (pg_name (i := 2) sc_is_row.nd rfl (Or.inl rfl))) (fun _ _ _ _ _ => pts_nil) (fun _ _ _ _ _ => (pe_cal k_is_whole (hr.mono (by decide)) rfl (pa_cons (pv 2) pa_nil)))) pa_nil))))))), ?_⟩)
  rintro ⟨d, n⟩ ⟨B, m, hd⟩
  rcases tup_or d with ⟨xs, rfl⟩ | hL
  · obtain ⟨hz, m', rfl, hx⟩ := hd.tup
    exact r_retD (ev_andD (ev_isi hd.ty (kit_tuple hd.ty) (ev_var rfl)) fun _ => ev_andD (ev_eqI (ev_lenT (ev_var rfl)) (ev_add (ev_var rfl) ev_int)) fun _ =>
      ev_all (f := isI) (ei_tup (ev_var rfl)) (by omega) (fun _ h => h) fun d hd => ⟨_, tg_name, ev_callD d (ea_consD (ev_var rfl) ea_nil) (hx d hd).ty⟩) rfl
  · refine r_retD (ev_andF (ev_isi hd.ty (kit_tuple hd.ty) (ev_var rfl)) hL) ?_
    show D.bl false = D.bl (rowB n d)
    rw [rowB_no hL]

theorem ok_is_room (T : Txt K mg) (F : FunD K "is_room" "is_room" (defArgs sis_room) (defBody sis_room) (defScope sis_room) [] [] f fd) (k_is_row : Cal P w K mg base "is_row" 2 ["thing", "many"] (sp_is_row K)) : FnOk P w K mg base CX0 3 f fd ["thing", "many"] (sp_is_room K) := by
  refine fn_ok F sc_is_room (fun _ => rfl) (fun cdv A' outer s H E hr => ⟨_, (pss_one (ps_ret (pe_and (pe_callB (isi_K (K := K) rfl) rfl T.m_isinstance bt_isinstance (pa_cons (pv 0) (pa_cons (pe_bltn (v := .ty "list") rfl T.m_list bt_list rfl) pa_nil))) (pe_one (pe_callB (all_K (K := K) rfl rfl) rfl T.m_all bt_all (pa_cons (pe_lc (own := [("row", 2)]) rfl sc_is_room.nd (seq_K (K := K) rfl (pv 0)) (blkOk_by (by kernel_rfl)) (fun _ _ _ _ _ => (pg_name (i := 2) sc_is_room.nd rfl (Or.inl rfl))) (fun _ _ _ _ _ => pts_nil) (fun _ _ _ _ _ => (pe_cal k_is_row (hr.mono (by decide)) rfl (pa_cons (pv 2) (pa_cons (pv 1) pa_nil))))) pa_nil)))))), ?_⟩)
  rintro ⟨d, n⟩ ⟨B, m, hd⟩
  rcases lst_or d with ⟨xs, rfl⟩ | hL
  · obtain ⟨hz, m', rfl, hx⟩ := hd.lst
    exact r_retD (ev_andD (ev_isi hd.ty (kit_list hd.ty) (ev_var rfl)) fun _ =>
      ev_all (f := rowB n) (ei_lst (ev_var rfl)) (by omega) (fun _ h => h) fun d hd => ⟨_, tg_name, ev_callD (d, n) (ea_consD (ev_var rfl) (ea_consD (ev_var rfl) ea_nil)) ⟨B, m', hx d hd⟩⟩) rfl
  · refine r_retD (ev_andF (ev_isi hd.ty (kit_list hd.ty) (ev_var rfl)) hL) ?_
    show D.bl false = D.bl (roomB n d)
    rw [roomB_no hL]

theorem ok_is_table (T : Txt K mg) (F : FunD K "is_table" "is_table" (defArgs sis_table) (defBody sis_table) (defScope sis_table) [] [] f fd) (k_are_wholes : Cal P w K mg base "are_wholes" 2 ["thing", "many"] (sp_are_wholes K)) : FnOk P w K mg base CX0 3 f fd ["thing", "many", "wide"] (sp_is_table K) := by
  refine fn_ok F sc_is_table (fun _ => rfl) (fun cdv A' outer s H E hr => ⟨_, (pss_one (ps_ret (pe_and (pe_callB (isi_K (K := K) rfl) rfl T.m_isinstance bt_isinstance (pa_cons (pv 0) (pa_cons (pe_bltn (v := .ty "list") rfl T.m_list bt_list rfl) pa_nil))) (pe_and (pe_cmpR (eq_K (K := K) rfl hr.units) (pe_callB (len_K (K := K) rfl) rfl T.m_len bt_len (pa_cons (pv 0) pa_nil)) (pv 1) (nomark _)) (pe_one (pe_callB (all_K (K := K) rfl rfl) rfl T.m_all bt_all (pa_cons (pe_lc (own := [("one", 3)]) rfl sc_is_table.nd (seq_K (K := K) rfl (pv 0)) (blkOk_by (by kernel_rfl)) (fun _ _ _ _ _ => (pg_name (i := 3) sc_is_table.nd rfl (Or.inl rfl))) (fun _ _ _ _ _ => pts_nil) (fun _ _ _ _ _ => (pe_cal k_are_wholes (hr.mono (by decide)) rfl (pa_cons (pv 3) (pa_cons (pv 2) pa_nil))))) pa_nil))))))), ?_⟩)
  rintro ⟨d, n, l⟩ ⟨B, m, hd⟩
  rcases lst_or d with ⟨xs, rfl⟩ | hL
  · obtain ⟨hz, m', rfl, hx⟩ := hd.lst
    exact r_retD (ev_andD (ev_isi hd.ty (kit_list hd.ty) (ev_var rfl)) fun _ => ev_andD (ev_eqI (ev_len (ev_var rfl)) (ev_var rfl)) fun _ =>
      ev_all (f := fun x => areIB x l) (ei_lst (ev_var rfl)) (by omega) (fun _ h => h) fun d hd => ⟨_, tg_name, ev_callD (d, l) (ea_consD (ev_var rfl) (ea_consD (ev_var rfl) ea_nil)) ⟨B, m', hx d hd⟩⟩) rfl
  · refine r_retD (ev_andF (ev_isi hd.ty (kit_list hd.ty) (ev_var rfl)) hL) ?_
    show D.bl false = D.bl (tblB d n l)
    rw [tblB_no hL]

theorem ok_own_list (T : Txt K mg) (F : FunD K "own_list" "own_list" (defArgs sown_list) (defBody sown_list) (defScope sown_list) [] [] f fd)  : FnOk P w K mg base CX0 1 f fd ["thing"] (sp_own_list K) := by
  refine fn_ok F sc_own_list (fun _ => rfl) (fun cdv A' outer s H E hr => ⟨_, (pss_cons (ps_if (pt_val (pe_callB (isi_K (K := K) rfl) rfl T.m_isinstance bt_isinstance (pa_cons (pv 0) (pa_cons (pe_bltn (v := .ty "list") rfl T.m_list bt_list rfl) pa_nil)))) (pss_one (ps_ret (pe_callTy (list_K (K := K) rfl) rfl T.m_list bt_list (pa_cons (pv 0) pa_nil)))) pss_nil)
      (pss_one (ps_ret (pv 0)))), ?_⟩)
  rintro d ⟨B, m, hd⟩
  refine rq_if (etB (ev_isi hd.ty (kit_list hd.ty) (ev_var rfl))) (fun h => ?_) (fun h => ?_)
  · rcases lst_or d with ⟨xs, rfl⟩ | hL
    · exact r_retD (ev_list (ev_var rfl)).toD rfl
    · rw [hL] at h; cases h
  · exact r_next (r_retD (ev_var rfl) rfl)

theorem ok_own (T : Txt K mg) (F : FunD K "own" "own" (defArgs sown) (defBody sown) (defScope sown) [] [] f fd) (k_own_list : Cal P w K mg base "own_list" 1 ["thing"] (sp_own_list K)) : FnOk P w K mg base CX0 2 f fd ["thing"] (sp_own K) := by
  refine fn_ok F sc_own (fun _ => rfl) (fun cdv A' outer s H E hr => ⟨_, (pss_cons (ps_if (pt_not (pt_val (pe_callB (isi_K (K := K) rfl) rfl T.m_isinstance bt_isinstance (pa_cons (pv 0) (pa_cons (pe_bltn (v := .ty "list") rfl T.m_list bt_list rfl) pa_nil))))) (pss_one (ps_ret (pv 0))) pss_nil)
      (pss_one (ps_ret (pe_lc (own := [("one", 1)]) rfl sc_own.nd (seq_K (K := K) rfl (pv 0)) (blkOk_by (by kernel_rfl)) (fun _ _ _ _ _ => (pg_name (i := 1) sc_own.nd rfl (Or.inl rfl))) (fun _ _ _ _ _ => pts_nil) (fun _ _ _ _ _ => (pe_cal k_own_list (hr.mono (by decide)) rfl (pa_cons (pv 1) pa_nil))))))), ?_⟩)
  rintro d ⟨B, m, hd⟩
  refine rq_if (et_notD (etB (ev_isi hd.ty (kit_list hd.ty) (ev_var rfl)))) (fun h => ?_) (fun h => ?_)
  · exact r_retD (ev_var rfl) rfl
  · rcases lst_or d with ⟨xs, rfl⟩ | hL
    · obtain ⟨hz, m', rfl, hx⟩ := hd.lst
      refine r_next (r_retD (ev_lcD (fun x => x) (ei_lst (ev_var rfl)) (by omega) (fun _ h => h) fun d hd => ⟨_, tg_name, ev_callD d (ea_consD (ev_var rfl) ea_nil) ⟨B, m', hx d hd⟩⟩).toD ?_)
      show D.lst (xs.map fun x => x) = D.lst xs
      rw [List.map_id']
    · rw [hL] at h; cases h

theorem ok_Mode_init (T : Txt K mg) (F : FunD K "__init__" "Mode.__init__" (defArgs sMode_init) (defBody sMode_init) (defScope sMode_init) [] [] f fd) (k_own : Cal P w K mg base "own" 2 ["thing"] (sp_own K)) : FnOk P w K mg base CX0 3 f fd ["self", "rows", "nexts", "steer", "push", "add", "divisor"] (sp_Mode_init K) := by
  refine init_ok F sc_Mode_init (fun _ => rfl) (fun cdv A' outer s H E hr => ⟨_, (pss_cons (ps_fld (pv 0) (pe_cal k_own (hr.mono (by decide)) rfl (pa_cons (pv 1) pa_nil)) rfl)
      (pss_cons (ps_fld (pv 0) (pe_cal k_own (hr.mono (by decide)) rfl (pa_cons (pv 2) pa_nil)) rfl)
      (pss_cons (ps_fld (pv 0) (pe_cal k_own (hr.mono (by decide)) rfl (pa_cons (pv 3) pa_nil)) rfl)
      (pss_cons (ps_fld (pv 0) (pe_cal k_own (hr.mono (by decide)) rfl (pa_cons (pv 4) pa_nil)) rfl)
      (pss_cons (ps_fld (pv 0) (pe_cal k_own (hr.mono (by decide)) rfl (pa_cons (pv 5) pa_nil)) rfl)
      (pss_one (ps_fld (pv 0) (pv 6) rfl))))))), ?_⟩)
  rintro ⟨a1, a2, a3, a4, a5, a6⟩ ⟨h1, h2, h3, h4, h5⟩ x
  refine rq_fld rfl (by decide +kernel) (by decide) T.cl_Mode T.n_Mode_rows (ev_callD a1 (ea_consD (ev_var rfl) ea_nil) h1) fun d e => ?_
  obtain rfl : d = a1 := e
  refine rq_fld rfl (by decide +kernel) (by decide) T.cl_Mode T.n_Mode_nexts (ev_callD a2 (ea_consD (ev_var rfl) ea_nil) h2) fun d e => ?_
  obtain rfl : d = a2 := e
  refine rq_fld rfl (by decide +kernel) (by decide) T.cl_Mode T.n_Mode_steer (ev_callD a3 (ea_consD (ev_var rfl) ea_nil) h3) fun d e => ?_
  obtain rfl : d = a3 := e
  refine rq_fld rfl (by decide +kernel) (by decide) T.cl_Mode T.n_Mode_push (ev_callD a4 (ea_consD (ev_var rfl) ea_nil) h4) fun d e => ?_
  obtain rfl : d = a4 := e
  refine rq_fld rfl (by decide +kernel) (by decide) T.cl_Mode T.n_Mode_add (ev_callD a5 (ea_consD (ev_var rfl) ea_nil) h5) fun d e => ?_
  obtain rfl : d = a5 := e
  refine r_fld rfl (by decide +kernel) (by decide) T.cl_Mode T.n_Mode_divisor (ev_var rfl) fun d e => ?_
  obtain rfl : d = a6 := e
  exact ⟨_, rfl, rfl, rfl⟩

theorem ok_Comes_init (T : Txt K mg) (F : FunD K "__init__" "Comes.__init__" (defArgs sComes_init) (defBody sComes_init) (defScope sComes_init) [] [] f fd)  : FnOk P w K mg base CX0 1 f fd ["self", "start", "goal", "turns"] (sp_Comes_init K) := by
  refine init_ok F sc_Comes_init (fun _ => rfl) (fun cdv A' outer s H E hr => ⟨_, (pss_cons (ps_fld (pv 0) (pe_callTy (list_K (K := K) rfl) rfl T.m_list bt_list (pa_cons (pv 1) pa_nil)) rfl)
      (pss_cons (ps_fld (pv 0) (pe_callTy (list_K (K := K) rfl) rfl T.m_list bt_list (pa_cons (pv 2) pa_nil)) rfl)
      (pss_one (ps_fld (pv 0) (pv 3) rfl)))), ?_⟩)
  rintro ⟨a1, a2, a3⟩ _ x
  refine rq_fld rfl (by decide +kernel) (by decide) T.cl_Comes T.n_Comes_start (ev_list (ev_var rfl)).toD fun d e => ?_
  obtain rfl : d = .lst a1 := e
  refine rq_fld rfl (by decide +kernel) (by decide) T.cl_Comes T.n_Comes_goal (ev_list (ev_var rfl)).toD fun d e => ?_
  obtain rfl : d = .lst a2 := e
  refine r_fld rfl (by decide +kernel) (by decide) T.cl_Comes T.n_Comes_turns (ev_var rfl) fun d e => ?_
  obtain rfl : d = a3 := e
  exact ⟨_, rfl, rfl, rfl⟩

end
end Tx
end
section
set_option Elab.async false
set_option linter.all false
set_option maxRecDepth 100000
set_option maxHeartbeats 4000000
set_option autoImplicit false
/-! W2: modes looked at, things made. -/
namespace Tx
open PySem L2 Kr Kt
theorem WfMd.okRows {n p : Nat} {m : Md} (h : WfMd n p m) (hn : n ≤ 3) : Ok 1000 2 (room m.rows) := ok_room (n := 0) (by have := h.rl; omega) (fun r hr => by have := h.rw r hr; omega) h.br
theorem WfMd.okNexts {n p : Nat} {m : Md} (h : WfMd n p m) (hn : n ≤ 3) : Ok 1000 2 (tbl m.nexts) := ok_tbl (n := 0) (by have := h.nl; omega) (fun r hr => by have := h.nw r hr; omega) h.bn
theorem WfMd.okPush {n p : Nat} {m : Md} (h : WfMd n p m) (hn : n ≤ 3) (hp : p ≤ 6) : Ok 1000 2 (tbl m.push) := ok_tbl (n := 0) (by have := h.pl; omega) (fun r hr => by have := h.pw r hr; omega) h.bp
theorem WfMd.okAdd {n p : Nat} {m : Md} (h : WfMd n p m) (hn : n ≤ 3) : Ok 1000 1 (dl m.add) := ok_ints (n := 0) (by have := h.al; omega) h.ba
theorem ok_zeros {B n : Nat} (hn : n ≤ 3) : Ok B 1 (dl (zeros n)) := ok_ints (n := 0) (by rw [List.length_replicate]; omega) fun x hx => by
  rw [(List.mem_replicate.mp hx).2]
  exact Nat.two_pow_pos B
theorem ty_int (i : Int) : tyD (.int i) ≠ "" := (by decide : "int" ≠ "")
theorem prs_all {bs : List (Int × Int)} (h : ∀ b ∈ bs, b.1 ≤ b.2) : ∀ d ∈ bs.map (fun b => D.tup [.int b.1, .int b.2]), ∃ x y : Int, x ≤ y ∧ d = .tup [.int x, .int y] := fun d hd => by
  obtain ⟨b, hb, rfl⟩ := List.mem_map.mp hd
  exact ⟨b.1, b.2, h b hb, rfl⟩
theorem all_true {f : D → Bool} {ds : List D} (h : ∀ d ∈ ds, f d = true) : ds.all f = true := List.all_eq_true.mpr h
section
variable {P : Program} {w : World} {K : PySem.W.Frag} {mg : Str → Option Value} {base : Heap} {f : Addr} {fd : FuncData}
theorem ok_is_mode (T : Txt K mg) (F : FunD K "is_mode" "is_mode" (defArgs sis_mode) (defBody sis_mode) (defScope sis_mode) [] [] f fd) (k_is_whole : Cal P w K mg base "is_whole" 1 ["thing"] (sp_is_whole K)) (k_are_wholes : Cal P w K mg base "are_wholes" 2 ["thing", "many"] (sp_are_wholes K)) (k_is_table : Cal P w K mg base "is_table" 3 ["thing", "many", "wide"] (sp_is_table K)) (k_is_room : Cal P w K mg base "is_room" 3 ["thing", "many"] (sp_is_room K)) : FnOk P w K mg base CX0 4 f fd ["thing", "many", "wide"] (sp_is_mode K) := by
  refine fn_ok F sc_is_mode (fun _ => rfl) (fun cdv A' outer s H E hr => ⟨_, (pss_cons (ps_if (PW.pt (pw_or (pt_not (pt_val (pe_callB (isi_K (K := K) rfl) rfl T.m_isinstance bt_isinstance (pa_cons (pv 0) (pa_cons (pe_glob (v := .ref (cMode K)) rfl T.mg_Mode rfl) pa_nil))))) (pw_or (pt_not (pt_val (pe_cal k_is_room (hr.mono (by decide)) rfl (pa_cons (fld_K (K := K) rfl (pv 0) rfl) (pa_cons (pv 1) pa_nil))))) (pw_or1 (pt_not (pt_val (pe_cal k_is_table (hr.mono (by decide)) rfl (pa_cons (fld_K (K := K) rfl (pv 0) rfl) (pa_cons (pv 1) (pa_cons (pv 1) pa_nil)))))))))) (pss_one (ps_ret pe_bl)) pss_nil)
      (pss_cons (ps_if (PW.pt (pw_or (pt_not (pt_val (pe_cal k_are_wholes (hr.mono (by decide)) rfl (pa_cons (fld_K (K := K) rfl (pv 0) rfl) (pa_cons (pv 1) pa_nil))))) (pw_or (pt_not (pt_val (pe_cal k_is_table (hr.mono (by decide)) rfl (pa_cons (fld_K (K := K) rfl (pv 0) rfl) (pa_cons (pv 1) (pa_cons (pv 2) pa_nil)))))) (pw_or1 (pt_not (pt_val (pe_cal k_are_wholes (hr.mono (by decide)) rfl (pa_cons (fld_K (K := K) rfl (pv 0) rfl) (pa_cons (pv 1) pa_nil))))))))) (pss_one (ps_ret pe_bl)) pss_nil)
      (pss_one (ps_ret (pe_and (pe_cal k_is_whole (hr.mono (by decide)) rfl (pa_cons (fld_K (K := K) rfl (pv 0) rfl) pa_nil)) (pe_one (pe_cmpR op_ge (fld_K (K := K) rfl (pv 0) rfl) pe_int (nomark _)))))))), ?_⟩)
  rintro ⟨m, n, p⟩ ⟨h, hn, hp⟩
  have e1 : roomB n (room m.rows) = true := roomB_room h.rw
  have e2 : tblB (tbl m.nexts) n n = true := tblB_tbl h.nl h.nw
  have e3 : areIB (dl (zeros n)) n = true := areIB_dl List.length_replicate
  have e4 : tblB (tbl m.push) n p = true := tblB_tbl h.pl h.pw
  have e5 : areIB (dl m.add) n = true := areIB_dl h.al
  refine rq_if (et_orD (et_notD (etB (ev_isC T.is_Mode (ev_var rfl)))) fun _ => et_orD (et_notD (etB (ev_callD (room m.rows, (n : Int)) (ea_consD (ev_fld T.cl_Mode T.n_Mode_rows rfl (ev_var rfl)) (ea_consD (ev_var rfl) ea_nil)) ⟨_, _, h.okRows hn⟩))) fun _ =>
    et_notD (etB (ev_callD (tbl m.nexts, (n : Int), (n : Int)) (ea_consD (ev_fld T.cl_Mode T.n_Mode_nexts rfl (ev_var rfl)) (ea_consD (ev_var rfl) (ea_consD (ev_var rfl) ea_nil))) ⟨_, _, h.okNexts hn⟩))) (fun z => ?_) (fun _ => r_next ?_)
  · have z : true = (!true || (!roomB n (room m.rows) || !tblB (tbl m.nexts) n n)) := z
    rw [e1, e2] at z; cases z
  refine rq_if (et_orD (et_notD (etB (ev_callD (dl (zeros n), (n : Int)) (ea_consD (ev_fld T.cl_Mode T.n_Mode_steer rfl (ev_var rfl)) (ea_consD (ev_var rfl) ea_nil)) ⟨1000, _, ok_zeros hn⟩))) fun _ =>
    et_orD (et_notD (etB (ev_callD (tbl m.push, (n : Int), (p : Int)) (ea_consD (ev_fld T.cl_Mode T.n_Mode_push rfl (ev_var rfl)) (ea_consD (ev_var rfl) (ea_consD (ev_var rfl) ea_nil))) ⟨_, _, h.okPush hn hp⟩))) fun _ =>
    et_notD (etB (ev_callD (dl m.add, (n : Int)) (ea_consD (ev_fld T.cl_Mode T.n_Mode_add rfl (ev_var rfl)) (ea_consD (ev_var rfl) ea_nil)) ⟨_, _, h.okAdd hn⟩))) (fun z => ?_) (fun _ => r_next ?_)
  · have z : true = (!areIB (dl (zeros n)) n || (!tblB (tbl m.push) n p || !areIB (dl m.add) n)) := z
    rw [e3, e4, e5] at z; cases z
  refine r_retD (ev_andD (ev_callD (D.int m.div) (ea_consD (ev_fld T.cl_Mode T.n_Mode_divisor rfl (ev_var rfl)) ea_nil) (ty_int _)) fun _ => ev_ge (ev_fld T.cl_Mode T.n_Mode_divisor rfl (ev_var rfl)) ev_int) ?_
  show D.bl (true && decide (1 ≤ m.div)) = D.bl true
  rw [decide_eq_true h.dv] <;> rfl

theorem ok_is_push (T : Txt K mg) (F : FunD K "is_push" "is_push" (defArgs sis_push) (defBody sis_push) (defScope sis_push) [] [] f fd) (k_is_whole : Cal P w K mg base "is_whole" 1 ["thing"] (sp_is_whole K)) : FnOk P w K mg base CX0 2 f fd ["thing"] (sp_is_push K) := by
  refine fn_ok F sc_is_push (fun _ => rfl) (fun cdv A' outer s H E hr => ⟨_, (pss_cons (ps_if (PW.pt (pw_or (pt_not (pt_val (pe_callB (isi_K (K := K) rfl) rfl T.m_isinstance bt_isinstance (pa_cons (pv 0) (pa_cons (pe_bltn (v := .ty "tuple") rfl T.m_tuple bt_tuple rfl) pa_nil))))) (pw_or (pt_cmpR (ne_K (K := K) rfl hr.units) (pe_callB (len_K (K := K) rfl) rfl T.m_len bt_len (pa_cons (pv 0) pa_nil)) pe_int (nomark _)) (pw_or (pt_not (pt_val (pe_cal k_is_whole (hr.mono (by decide)) rfl (pa_cons (pe_ix (ix_K (K := K) rfl) (pv 0) pe_int (fun _ _ => rfl)) pa_nil)))) (pw_or1 (pt_not (pt_val (pe_cal k_is_whole (hr.mono (by decide)) rfl (pa_cons (pe_ix (ix_K (K := K) rfl) (pv 0) pe_int (fun _ _ => rfl)) pa_nil))))))))) (pss_one (ps_ret pe_bl)) pss_nil)
      (pss_one (ps_ret (pe_cmpR op_le (pe_ix (ix_K (K := K) rfl) (pv 0) pe_int (fun _ _ => rfl)) (pe_ix (ix_K (K := K) rfl) (pv 0) pe_int (fun _ _ => rfl)) (nomark _))))), ?_⟩)
  rintro ⟨a, b⟩ h
  have h : a ≤ b := h
  refine rq_if (et_orD (et_notD (etB (ev_isi (d := .tup [.int a, .int b]) (by exact (by decide : "tuple" ≠ "")) kb_tuple_tuple (ev_var rfl)))) fun _ => et_orD (etD (ev_neI (ev_lenT (ev_var rfl)) ev_int)) fun _ =>
    et_orD (et_notD (etB (ev_callD (D.int a) (ea_consD (ev_ixT rfl (ev_var rfl) ev_int) ea_nil) (ty_int _)))) fun _ => et_notD (etB (ev_callD (D.int b) (ea_consD (ev_ixT rfl (ev_var rfl) ev_int) ea_nil) (ty_int _)))) (fun z => ?_) (fun _ => r_next ?_)
  · cases z
  · refine r_retD (ev_le (ev_ixT (d := .int a) rfl (ev_var rfl) ev_int) (ev_ixT (d := .int b) rfl (ev_var rfl) ev_int)) ?_
    show D.bl (decide (a ≤ b)) = D.bl true
    rw [decide_eq_true h]

theorem ok_Thing_init (T : Txt K mg) (F : FunD K "__init__" "Thing.__init__" (defArgs sThing_init) (defBody sThing_init) (defScope sThing_init) [] [] f fd) (k_is_mode : Cal P w K mg base "is_mode" 4 ["thing", "many", "wide"] (sp_is_mode K)) (k_is_push : Cal P w K mg base "is_push" 2 ["thing"] (sp_is_push K)) (k_is_whole : Cal P w K mg base "is_whole" 1 ["thing"] (sp_is_whole K)) : FnOk P w K mg base CX0 5 f fd ["self", "many", "pushes", "modes"] (sp_Thing_init K) := by
  refine init_ok F sc_Thing_init (fun _ => rfl) (fun cdv A' outer s H E hr => ⟨_, (pss_cons (ps_if (PW.pt (pw_or (pt_not (pt_val (pe_cal k_is_whole (hr.mono (by decide)) rfl (pa_cons (pv 1) pa_nil)))) (pw_or1 (pt_not (pt_chain op_le op_le pe_int (pv 1) (pe_glob (v := .int 3) rfl T.c_MOST_NUMBERS.choose_spec ⟨_, rfl⟩)))))) (pss_one ps_never) pss_nil)
      (pss_cons (ps_if (PW.pt (pw_or (pt_not (pt_val (pe_callB (isi_K (K := K) rfl) rfl T.m_isinstance bt_isinstance (pa_cons (pv 2) (pa_cons (pe_bltn (v := .ty "list") rfl T.m_list bt_list rfl) pa_nil))))) (pw_or1 (pt_not (pt_val (pe_callB (all_K (K := K) rfl rfl) rfl T.m_all bt_all (pa_cons (pe_lc (own := [("push", 5)]) rfl sc_Thing_init.nd (seq_K (K := K) rfl (pv 2)) (blkOk_by (by kernel_rfl)) (fun _ _ _ _ _ => (pg_name (i := 5) sc_Thing_init.nd rfl (Or.inl rfl))) (fun _ _ _ _ _ => pts_nil) (fun _ _ _ _ _ => (pe_cal k_is_push (hr.mono (by decide)) rfl (pa_cons (pv 5) pa_nil)))) pa_nil))))))) (pss_one ps_never) pss_nil)
      (pss_cons (ps_if (PW.pt (pw_or (pt_not (pt_val (pe_callB (isi_K (K := K) rfl) rfl T.m_isinstance bt_isinstance (pa_cons (pv 3) (pa_cons (pe_bltn (v := .ty "list") rfl T.m_list bt_list rfl) pa_nil))))) (pw_or1 (pt_cmpR (eq_K (K := K) rfl hr.units) (pv 3) (pe_lst pa_nil) (nomark _))))) (pss_one ps_never) pss_nil)
      (pss_cons (ps_if (pt_not (pt_val (pe_callB (all_K (K := K) rfl rfl) rfl T.m_all bt_all (pa_cons (pe_lc (own := [("mode", 4)]) rfl sc_Thing_init.nd (seq_K (K := K) rfl (pv 3)) (blkOk_by (by kernel_rfl)) (fun _ _ _ _ _ => (pg_name (i := 4) sc_Thing_init.nd rfl (Or.inl rfl))) (fun _ _ _ _ _ => pts_nil) (fun _ _ _ _ _ => (pe_cal k_is_mode (hr.mono (by decide)) rfl (pa_cons (pv 4) (pa_cons (pv 1) (pa_cons (pe_callB (len_K (K := K) rfl) rfl T.m_len bt_len (pa_cons (pv 2) pa_nil)) pa_nil)))))) pa_nil)))) (pss_one ps_never) pss_nil)
      (pss_cons (ps_if (PW.pt (pw_or (pt_cmpR op_gt (pe_callB (len_K (K := K) rfl) rfl T.m_len bt_len (pa_cons (pv 2) pa_nil)) (pe_glob (v := .int 6) rfl T.c_MOST_PUSHES.choose_spec ⟨_, rfl⟩) (nomark _)) (pw_or1 (pt_cmpR op_gt (pe_callB (len_K (K := K) rfl) rfl T.m_len bt_len (pa_cons (pv 3) pa_nil)) (pe_glob (v := .int 40) rfl T.c_MOST_MODES.choose_spec ⟨_, rfl⟩) (nomark _))))) (pss_one ps_never) pss_nil)
      (pss_cons (ps_fld (pv 0) (pv 1) rfl)
      (pss_cons (ps_fld (pv 0) (pe_callTy (list_K (K := K) rfl) rfl T.m_list bt_list (pa_cons (pv 2) pa_nil)) rfl)
      (pss_one (ps_fld (pv 0) (pe_callTy (list_K (K := K) rfl) rfl T.m_list bt_list (pa_cons (pv 3) pa_nil)) rfl))))))))), ?_⟩)
  rintro ⟨n, ps, ms⟩ h x
  have h1 : (1 : Int) ≤ n := by have := h.n1; exact Int.ofNat_le.mpr this
  have h3 : (n : Int) ≤ 3 := by have := h.n3; exact Int.ofNat_le.mpr this
  refine rq_if (et_orD (et_notD (etB (ev_callD (D.int n) (ea_consD (ev_var rfl) ea_nil) (ty_int _)))) fun _ => et_notD (etD (ev_chain (b := decide ((1 : Int) ≤ n)) (c := decide ((n : Int) ≤ 3)) ev_int (ev_var rfl) (fun _ => ev_int) (od_I0 fun G => dt_bl.mpr rfl) (od_I0 fun G => dt_bl.mpr rfl)))) (fun z => ?_) (fun _ => r_next ?_)
  · have z : true = (!true || !(decide ((1 : Int) ≤ n) && decide ((n : Int) ≤ 3))) := z
    rw [decide_eq_true h1, decide_eq_true h3] at z; cases z
  refine rq_if (et_orD (et_notD (etB (ev_isi (d := prs ps) (by exact (by decide : "list" ≠ "")) kb_list_list (ev_var rfl)))) fun _ => et_notD (etB (ev_all (f := fun _ => true) (ei_lst (ev_var rfl)) (by rw [List.length_map]; have := h.pl; show ps.length ≤ 50000; have : ps.length ≤ 6 := this; omega) (fun _ h => h) fun d hd => by
    obtain ⟨a, b, hab, rfl⟩ := prs_all h.po d hd
    exact ⟨_, tg_name, ev_callD (a, b) (ea_consD (ev_var rfl) ea_nil) hab⟩))) (fun z => ?_) (fun _ => r_next ?_)
  · have z : true = (!true || !(ps.map fun b : Int × Int => D.tup [.int b.1, .int b.2]).all fun _ => true) := z
    rw [all_true fun _ _ => rfl] at z; cases z
  refine rq_if (et_orD (et_notD (etB (ev_isi (d := .lst (ms.map (mdO K n))) (by exact (by decide : "list" ≠ "")) kb_list_list (ev_var rfl)))) fun _ => etD (ev_eqNil (ev_var rfl) ev_nil.toD)) (fun z => ?_) (fun _ => r_next ?_)
  · have z : true = (!true || (ms.map (mdO K n)).isEmpty) := z
    have hm : ms ≠ [] := h.m1
    cases ms with
    | nil => exact absurd rfl hm
    | cons a b => cases z
  refine rq_if (et_notD (etB (ev_all (f := fun _ => true) (ei_lst (ev_var rfl)) (by rw [List.length_map]; have q : ms.length ≤ 40 := h.ml; show ms.length ≤ 50000; omega) (fun _ h => h) fun d hd => by
    obtain ⟨m, hm, rfl⟩ := List.mem_map.mp hd
    refine ⟨_, tg_name, ?_⟩
    refine (ev_callD (m, n, ps.length) (ea_consD (ev_var rfl) (ea_consD (ev_var rfl) (ea_consD (ev_is (ev_len (ev_var rfl)) (by rw [List.length_map])) ea_nil))) ⟨h.mw m hm, h.n3, h.pl⟩)))) (fun z => ?_) (fun _ => r_next ?_)
  · have z : true = (!(ms.map (mdO K n)).all fun _ => true) := z
    rw [all_true fun _ _ => rfl] at z; cases z
  refine rq_if (et_orD (etD (ev_gt (ev_len (ev_var rfl)) ev_int)) fun _ => etD (ev_gt (ev_len (ev_var rfl)) ev_int)) (fun z => ?_) (fun _ => r_next ?_)
  · have z : true = (decide ((6 : Int) < ((ps.map fun b : Int × Int => D.tup [.int b.1, .int b.2]).length : Int)) || decide ((40 : Int) < ((ms.map (mdO K n)).length : Int))) := z
    have q1 : ps.length ≤ 6 := h.pl
    have q2 : ms.length ≤ 40 := h.ml
    rw [List.length_map, List.length_map, decide_eq_false (by omega), decide_eq_false (by omega)] at z; cases z
  refine rq_fld rfl (by decide +kernel) (by decide) T.cl_Thing T.n_Thing_many (ev_var rfl) fun d e => ?_
  obtain rfl : d = .int n := e
  refine rq_fld rfl (by decide +kernel) (by decide) T.cl_Thing T.n_Thing_bounds (ev_list (ev_var rfl)).toD fun d e => ?_
  obtain rfl : d = prs ps := e
  refine r_fld rfl (by decide +kernel) (by decide) T.cl_Thing T.n_Thing_ways (ev_list (ev_var rfl)).toD fun d e => ?_
  obtain rfl : d = .lst (ms.map (mdO K n)) := e
  exact ⟨_, rfl, rfl, rfl⟩

theorem ok_Thing_pushes (T : Txt K mg) (F : FunD K "pushes" "Thing.pushes" (defArgs sThing_pushes) (defBody sThing_pushes) (defScope sThing_pushes) [] [] f fd)  : FnOk P w K mg base CX0 1 f fd ["self"] (sp_Thing_pushes K) := by
  refine fn_ok F sc_Thing_pushes (fun _ => rfl) (fun cdv A' outer s H E hr => ⟨_, (pss_one (ps_ret (pe_callTy (list_K (K := K) rfl) rfl T.m_list bt_list (pa_cons (fld_K (K := K) rfl (pv 0) rfl) pa_nil)))), ?_⟩)
  intro t _
  exact r_retD (ev_list (ev_fld T.cl_Thing T.n_Thing_bounds rfl (ev_var rfl))).toD rfl

theorem ok_Thing_modes (T : Txt K mg) (F : FunD K "modes" "Thing.modes" (defArgs sThing_modes) (defBody sThing_modes) (defScope sThing_modes) [] [] f fd)  : FnOk P w K mg base CX0 1 f fd ["self"] (sp_Thing_modes K) := by
  refine fn_ok F sc_Thing_modes (fun _ => rfl) (fun cdv A' outer s H E hr => ⟨_, (pss_one (ps_ret (pe_callTy (list_K (K := K) rfl) rfl T.m_list bt_list (pa_cons (fld_K (K := K) rfl (pv 0) rfl) pa_nil)))), ?_⟩)
  intro t _
  exact r_retD (ev_list (ev_fld T.cl_Thing T.n_Thing_ways rfl (ev_var rfl))).toD rfl

theorem ok_Thing_is_closed (T : Txt K mg) (F : FunD K "is_closed" "Thing.is_closed" (defArgs sThing_is_closed) (defBody sThing_is_closed) (defScope sThing_is_closed) [] [] f fd)  : FnOk P w K mg base CX0 1 f fd ["self"] (sp_Thing_is_closed K) := by
  refine fn_ok F sc_Thing_is_closed (fun _ => rfl) (fun cdv A' outer s H E hr => ⟨_, (pss_one (ps_ret (pe_callB (all_K (K := K) rfl rfl) rfl T.m_all bt_all (pa_cons (pe_lc (own := [("mode", 1)]) rfl sc_Thing_is_closed.nd (seq_K (K := K) rfl (fld_K (K := K) rfl (pv 0) rfl)) (blkOk_by (by kernel_rfl)) (fun _ _ _ _ _ => (pg_name (i := 1) sc_Thing_is_closed.nd rfl (Or.inl rfl))) (fun _ _ _ _ _ => pts_nil) (fun _ _ _ _ _ => (pe_cmpR (eq_K (K := K) rfl hr.units) (fld_K (K := K) rfl (pv 1) rfl) (pe_op (mul_K (K := K) rfl) (pe_lst (pa_cons pe_int pa_nil)) (fld_K (K := K) rfl (pv 0) rfl)) (nomark _)))) pa_nil)))), ?_⟩)
  intro t h
  have hz : (t.ms.map (mdO K t.n)).length ≤ 50000 := by rw [List.length_map]; have := h.ml; omega
  have hn := h.n3
  refine r_retD (ev_all (f := fun _ => true) (ei_lst (ev_fld T.cl_Thing T.n_Thing_ways rfl (ev_var rfl))) hz (fun _ h => h) fun d hd => ?_) ?_
  · obtain ⟨m, hm, rfl⟩ := List.mem_map.mp hd
    refine ⟨_, tg_name, ?_⟩
    refine ev_is (ev_eqL (ns := zeros t.n) (ms := zeros t.n) (ev_fld T.cl_Mode T.n_Mode_steer rfl (ev_var rfl)) (ev_is (ev_rep (xs := [.int 0]) (k := t.n) (by omega) (by omega) (by decide) (ev_lstD (ea_consD ev_int ea_nil) (by decide)).toD (ev_fld T.cl_Thing T.n_Thing_many rfl (ev_var rfl))).toD ?_)) ?_
    · rw [Int.toNat_natCast]
      show D.lst (List.replicate t.n [D.int 0]).flatten = D.lst ((List.replicate t.n (0 : Int)).map D.int)
      rw [List.map_replicate]
      congr 1
      induction t.n with
      | zero => rfl
      | succ k ih => rw [List.replicate_succ, List.flatten_cons, ih, List.replicate_succ] <;> rfl
    · rw [decide_eq_true rfl]
  · show D.bl ((t.ms.map (mdO K t.n)).all fun _ => true) = D.bl true
    rw [all_true fun _ _ => rfl]

theorem ok_check_closed (T : Txt K mg) (F : FunD K "check_closed" "check_closed" (defArgs scheck_closed) (defBody scheck_closed) (defScope scheck_closed) [] [] f fd) (k_Thing_is_closed : CalM P w K mg base (cThing K) "is_closed" 1 ["self"] (sp_Thing_is_closed K)) : FnOk P w K mg base CX0 2 f fd ["thing"] (sp_check_closed K) := by
  refine fn_ok F sc_check_closed (fun _ => rfl) (fun cdv A' outer s H E hr => ⟨_, (pss_one (ps_if (pt_not (pt_val (pe_mt0 k_Thing_is_closed (hr.mono (by decide)) (pv 0)))) (pss_one ps_never) pss_nil)), ?_⟩)
  intro t h
  refine r_if (et_not ((etB (ev_meth (R := fun r => r = .bl true) (ns := nsThing) (by decide +kernel) (ev_var rfl) ea_nil fun es e => ⟨t, by rw [e]; rfl, h, fun d z => z⟩)).mono fun b e => ?_)) (Rb := fun b => b = false) (fun z => ?_) (fun _ => r_next ?_)
  · rw [e] <;> rfl
  · cases z
  · exact rfl

end
end Tx
end
section
set_option autoImplicit false
/-! Li: sums of rows, plain lists of ints. -/
namespace Li
abbrev zeros (n : Nat) : List Int := List.replicate n 0
def vadd (a b : List Int) : List Int := List.zipWith (· + ·) a b
def smul (k : Int) (a : List Int) : List Int := a.map (k * ·)
/-- each row taken so many times, added -/
def lin (ns : List Int) (rs : List (List Int)) (n : Nat) : List Int := (ns.zip rs).foldl (fun a p => vadd a (smul p.1 p.2)) (zeros n)
theorem vadd_len {a b : List Int} {n : Nat} (ha : a.length = n) (hb : b.length = n) : (vadd a b).length = n := by
  unfold vadd; rw [List.length_zipWith, ha, hb, Nat.min_self]
theorem smul_len (k : Int) (a : List Int) : (smul k a).length = a.length := by unfold smul; rw [List.length_map]
theorem fold_len {n : Nat} : ∀ (ps : List (Int × List Int)) (a : List Int), a.length = n → (∀ p ∈ ps, p.2.length = n) → (ps.foldl (fun a p => vadd a (smul p.1 p.2)) a).length = n
  | [], _, h, _ => h
  | p :: ps, a, h, hp => fold_len ps _ (vadd_len h (by rw [smul_len]; exact hp p List.mem_cons_self)) fun q hq => hp q (List.mem_cons_of_mem _ hq)
theorem lin_len {ns : List Int} {rs : List (List Int)} {n : Nat} (h : ∀ r ∈ rs, r.length = n) : (lin ns rs n).length = n :=
  fold_len _ _ List.length_replicate fun p hp => h p.2 (List.of_mem_zip hp).2
theorem take_snoc {α : Type} {l : List α} {i : Nat} {x : α} (h : l[i]? = some x) : l.take (i + 1) = l.take i ++ [x] := by
  rw [List.take_succ, h]; rfl
theorem lin_step {ns : List Int} {rs : List (List Int)} {n k : Nat} {c : Int} {r : List Int} (h1 : ns[k]? = some c) (h2 : rs[k]? = some r) : lin (ns.take (k + 1)) (rs.take (k + 1)) n = vadd (lin (ns.take k) (rs.take k) n) (smul c r) := by
  unfold lin
  have e : (ns.take (k + 1)).zip (rs.take (k + 1)) = (ns.take k).zip (rs.take k) ++ [(c, r)] := by
    rw [take_snoc h1, take_snoc h2, List.zip_append]
    · rfl
    · have l1 := (List.getElem?_eq_some_iff.mp h1).1
      have l2 := (List.getElem?_eq_some_iff.mp h2).1
      rw [List.length_take, List.length_take]; omega
  rw [e, List.foldl_append]; rfl
/-- the first j places are done -/
def part (a b : List Int) (j : Nat) : List Int := (vadd a b).take j ++ a.drop j
theorem part_zero (a b : List Int) : part a b 0 = a := rfl
theorem part_all {a b : List Int} {n : Nat} (ha : a.length = n) (hb : b.length = n) : part a b n = vadd a b := by
  unfold part
  rw [List.take_of_length_le (by rw [vadd_len ha hb]; exact Nat.le_refl _), List.drop_eq_nil_of_le (by omega), List.append_nil]
theorem part_len {a b : List Int} {n j : Nat} (ha : a.length = n) (hb : b.length = n) (hj : j ≤ n) : (part a b j).length = n := by
  unfold part
  rw [List.length_append, List.length_take, List.length_drop, vadd_len ha hb]; omega
theorem part_get {a b : List Int} {n j : Nat} (ha : a.length = n) (hb : b.length = n) (hj : j < n) : (part a b j)[j]? = a[j]? := by
  unfold part
  rw [List.getElem?_append_right (by rw [List.length_take, vadd_len ha hb]; omega), List.length_take, vadd_len ha hb, List.getElem?_drop]
  congr 1; omega
theorem part_step {a b : List Int} {n j : Nat} {x y : Int} (ha : a.length = n) (hb : b.length = n) (hx : a[j]? = some x) (hy : b[j]? = some y) : (part a b j).set j (x + y) = part a b (j + 1) := by
  have hj : j < n := by have := (List.getElem?_eq_some_iff.mp hx).1; omega
  apply List.ext_getElem?
  intro i
  by_cases c : i = j
  · subst c
    rw [List.getElem?_set_self (by rw [part_len ha hb (by omega)]; exact hj)]
    unfold part
    rw [List.getElem?_append_left (by rw [List.length_take, vadd_len ha hb]; omega), List.getElem?_take_of_lt (by omega)]
    unfold vadd
    rw [List.getElem?_zipWith, hx, hy]
  · rw [List.getElem?_set_ne (Ne.symm c)]
    unfold part
    by_cases c2 : i < j
    · rw [List.getElem?_append_left (by rw [List.length_take, vadd_len ha hb]; omega), List.getElem?_append_left (by rw [List.length_take, vadd_len ha hb]; omega), List.getElem?_take_of_lt c2, List.getElem?_take_of_lt (by omega)]
    · rw [List.getElem?_append_right (by rw [List.length_take, vadd_len ha hb]; omega), List.getElem?_append_right (by rw [List.length_take, vadd_len ha hb]; omega), List.length_take, List.length_take, vadd_len ha hb, List.getElem?_drop, List.getElem?_drop]
      congr 1; omega
theorem smul_get {k : Int} {a : List Int} {j : Nat} {x : Int} (h : a[j]? = some x) : (smul k a)[j]? = some (k * x) := by unfold smul; rw [List.getElem?_map, h]; rfl

/-! ### rows of the program -/
/-- p noughts ahead of the bound -/
def widen (p : Nat) (r : List Int) : List Int := r.dropLast ++ zeros p ++ [r.getLastD 0]
/-- of n numbers and p pushes: s at the push i, the bound b -/
def pRow (n p i : Nat) (s b : Int) : List Int := zeros n ++ zeros i ++ [s] ++ zeros (p - (i + 1)) ++ [b]
def pRows (n : Nat) (ps : List (Int × Int)) : List (List Int) := (List.range ps.length).flatMap fun i => [pRow n ps.length i 1 (ps.getD i (0, 0)).2, pRow n ps.length i (-1) (0 - (ps.getD i (0, 0)).1)]
def stand (n : Nat) (ps : List (Int × Int)) (rs : List (List Int)) : List (List Int) := rs.map (widen ps.length) ++ pRows n ps
def dotI (a b : List Int) : Int := (List.zipWith (· * ·) a b).sum
/-- the reach of a row by a mode (nexts, push, add, div) of n numbers and p pushes -/
def reach (n p : Nat) (nexts push : List (List Int)) (add : List Int) (div : Int) (r : List Int) : List Int :=
  lin r.dropLast nexts n ++ lin r.dropLast push p ++ [div * r.getLastD 0 - dotI (r.take n) add]
/-- the other side -/
def neg (r : List Int) : List Int := r.map (0 - ·)
/-- the fall by a mode -/
def fall (n p : Nat) (nexts push : List (List Int)) (add : List Int) (div : Int) (v : List Int) (step : Int) : List Int :=
  let r := reach n p nexts push add div (v.dropLast ++ [0])
  List.zipWith (fun a b => a - div * b) (r.take n) (v.take n) ++ ((r.drop n).dropLast ++ [r.getLastD 0 - div * step])
/-- shares of rows that show a target -/
structure Shown (rs : List (List Int)) (t : List Int) (often : Int) (numbers : List Int) : Prop where
  len : numbers.length = rs.length
  o0 : 0 ≤ often
  n0 : ∀ x ∈ numbers, 0 ≤ x
  nums : (lin numbers rs t.length).dropLast = smul often t.dropLast
  shut : often = 0 → (lin numbers rs t.length).getLastD 0 < 0
  bound : often ≠ 0 → (lin numbers rs t.length).getLastD 0 ≤ often * t.getLastD 0
def Shows (rs : List (List Int)) (t : List Int) : Prop := ∃ often numbers, Shown rs t often numbers
end Li
end
section
set_option Elab.async false
set_option linter.all false
set_option maxRecDepth 100000
set_option maxHeartbeats 4000000
set_option autoImplicit false
/-! Wa: slices and places of lists; promises of the rows' defs. -/
namespace Tx
open PySem L2 Kr Kt Li
section
variable {α : Type}
theorem cut_take (xs : List α) (k : Nat) : cutL xs none (some (k : Int)) = xs.take k := by
  unfold cutL
  rw [HT.sIx_none, HT.sIx_nat, List.drop_zero, Nat.sub_zero, List.take_eq_take_iff]
  omega
theorem cut_drop (xs : List α) (k : Nat) : cutL xs (some (k : Int)) none = xs.drop k := by
  unfold cutL
  rw [HT.sIx_none, HT.sIx_nat]
  by_cases h : k ≤ xs.length
  · rw [Nat.min_eq_left h, List.take_of_length_le (by rw [List.length_drop]; exact Nat.le_refl _)]
  · rw [Nat.min_eq_right (by omega), List.drop_length, List.drop_eq_nil_of_le (by omega), List.take_nil]
theorem cut_last (xs : List α) : cutL xs none (some (-1)) = xs.dropLast := by
  unfold cutL
  have e : HT.sIx xs.length xs.length (some (-1)) = xs.length - 1 := by
    have h := HT.clip_eq (-1) xs.length xs.length
    rw [if_pos (by decide)] at h
    omega
  rw [HT.sIx_none, e, List.drop_zero, Nat.sub_zero, List.dropLast_eq_take]
theorem cut_mid (xs : List α) (a b : Nat) : cutL xs (some (a : Int)) (some (b : Int)) = (xs.drop a).take (b - a) := by
  unfold cutL
  rw [HT.sIx_nat, HT.sIx_nat]
  by_cases h : a ≤ xs.length
  · rw [show min a xs.length = a by omega, List.take_eq_take_iff, List.length_drop]; omega
  · rw [show min a xs.length = xs.length by omega, List.drop_length, List.drop_eq_nil_of_le (show xs.length ≤ a by omega), List.take_nil, List.take_nil]
theorem at_last {xs : List α} {x : α} (h : xs.getLast? = some x) : L2.atI xs (-1) = some x := by
  obtain ⟨ys, rfl⟩ := List.getLast?_eq_some_iff.mp h
  exact L2.atI_last ys x
theorem at_nat {xs : List α} {k : Nat} {x : α} (h : xs[k]? = some x) : L2.atI xs (k : Int) = some x := L2.atI_nat h
theorem lastD_some {r : List Int} (h : r ≠ []) : r.getLast? = some (r.getLastD 0) := by
  rw [List.getLast?_eq_some_getLast h, List.getLastD_eq_getLast?, List.getLast?_eq_some_getLast h] <;> rfl
end
theorem at_lastI {r : List Int} (h : r ≠ []) : L2.atI (r.map D.int) (-1) = some (.int (r.getLastD 0)) := at_last (by
  rw [List.getLast?_map, lastD_some h] <;> rfl)
theorem at_ints {r : List Int} {k : Nat} {x : Int} (h : r[k]? = some x) : L2.atI (r.map D.int) (k : Int) = some (.int x) := at_nat (by rw [List.getElem?_map, h] <;> rfl)
theorem map_dropLast (r : List Int) : (r.map D.int).dropLast = r.dropLast.map D.int := by rw [List.map_dropLast]
theorem rep_one {α : Type} (x : α) (k : Nat) : (List.replicate k [x]).flatten = List.replicate k x := by
  induction k with
  | zero => rfl
  | succ k ih => rw [List.replicate_succ, List.flatten_cons, ih, List.replicate_succ] <;> rfl
theorem rep_zero (k : Nat) : (List.replicate k [D.int 0]).flatten = (Li.zeros k).map D.int := by
  rw [rep_one, List.map_replicate]
section
variable {K : PySem.W.Frag} {ρ : Rho} {ta tb : TE}
/-- [0] * k -/
theorem ev_zeros {k : Nat} (hk : k ≤ 1000) (h : EvD K tb ρ (.int k)) : EvN K (tOp (rMulX K) (tLst (tCons (tC (.int 0)) tNil)) tb) ρ (fun ds => ds = (Li.zeros k).map D.int) :=
  (ev_rep (xs := [.int 0]) (k := k) (by omega) (by omega) (by decide) (ev_lstD (ea_consD ev_int ea_nil) (by decide)).toD h).mono fun ds e => by rw [e, Int.toNat_natCast, rep_zero]
/-- (0,) * k -/
theorem ev_zerosT {k : Nat} (hk : k ≤ 1000) (h : EvD K tb ρ (.int k)) : EvD K (tOp (rMulX K) (tTup (tCons (tC (.int 0)) tNil)) tb) ρ (dt (Li.zeros k)) :=
  ev_is (ev_repT (xs := [.int 0]) (k := k) (by omega) (by omega) (by decide) (by simp) (ev_tup (ea_consD ev_int ea_nil) (by decide)) h) (by rw [Int.toNat_natCast, rep_zero])
/-- ints joined -/
theorem ev_catI {a b : List Int} (hz : a.length + b.length ≤ 100000) (ha : EvD K ta ρ (dt a)) (hb : EvD K tb ρ (dt b)) : EvD K (tOp (rAddX K) ta tb) ρ (dt (a ++ b)) :=
  ev_is (ev_catT (by rw [List.length_map, List.length_map]; exact hz) ha hb) (by unfold dt; rw [List.map_append])
theorem ev_one {i : Int} (h : EvD K ta ρ (.int i)) : EvD K (tTup (tCons ta tNil)) ρ (dt [i]) := ev_tup (ds := [.int i]) (ea_consD h ea_nil) (by show 1 ≤ 100000; decide)
theorem ev_mul {i j : Int} {a b : Nat} (hi : Bd a i) (hj : Bd b j) (h0 : 0 < a) (h1 : 0 < b) (h : a + b ≤ 1000000) (ha : EvD K ta ρ (.int i)) (hb : EvD K tb ρ (.int j)) : EvD K (tOp (rMulX K) ta tb) ρ (.int (i * j)) :=
  ev_mulC (wide_mul hi hj h0 h1 h) ha hb
end

/-! ### promises -/
section
variable (K : PySem.W.Frag)
abbrev sp_summed_by : Sp := spF K (fun a : List Int × List (List Int) × Nat => [dt a.1, tbl a.2.1, .int a.2.2])
  (fun a => a.1.length ≤ 1000 ∧ a.2.1.length ≤ 1000 ∧ a.2.2 ≤ 10 ∧ (∀ r ∈ a.2.1, r.length = a.2.2) ∧ (∀ x ∈ a.1, Bd 4000 x) ∧ (∀ r ∈ a.2.1, ∀ x ∈ r, Bd 4000 x))
  (fun a r => r = dl (lin a.1 a.2.1 a.2.2))
abbrev sp_added : Sp := spF K (fun a : List (List Int) × List Int × Nat => [room a.1, dl a.2.1, .int a.2.2])
  (fun a => a.1.length ≤ 1000 ∧ a.2.1.length ≤ 1000 ∧ a.2.2 ≤ 20 ∧ (∀ r ∈ a.1, r.length = a.2.2 + 1) ∧ (∀ x ∈ a.2.1, Bd 4000 x) ∧ (∀ r ∈ a.1, ∀ x ∈ r, Bd 4000 x))
  (fun a r => r = dt (lin a.2.1 a.1 (a.2.2 + 1)))
abbrev sp_widened : Sp := spF K (fun a : List (List Int) × Nat => [room a.1, .int a.2]) (fun a => a.1.length ≤ 1000 ∧ a.2 ≤ 6 ∧ ∀ r ∈ a.1, r ≠ [] ∧ r.length ≤ 100) (fun a r => r = room (a.1.map (widen a.2)))
abbrev sp_push_rows : Sp := spF K (fun t : Th => [thO K t]) WfTh (fun t r => r = room (pRows t.n t.ps))
abbrev sp_standing : Sp := spF K (fun a : Th × List (List Int) => [thO K a.1, room a.2]) (fun a => WfTh a.1 ∧ a.2.length ≤ 1000 ∧ ∀ r ∈ a.2, r ≠ [] ∧ r.length ≤ 100) (fun a r => r = room (stand a.1.n a.1.ps a.2))
abbrev sp_reach : Sp := spF K (fun a : Th × Md × List Int => [thO K a.1, mdO K a.1.n a.2.1, dt a.2.2]) (fun a => WfTh a.1 ∧ WfMd a.1.n a.1.ps.length a.2.1 ∧ a.2.2.length = a.1.n + 1 ∧ ∀ x ∈ a.2.2, Bd 4000 x)
  (fun a r => r = dt (Li.reach a.1.n a.1.ps.length a.2.1.nexts a.2.1.push a.2.1.add a.2.1.div a.2.2))
abbrev sp_turned_about : Sp := spF K (fun r : List Int => [dt r]) (fun r => r.length ≤ 1000) (fun r d => d = dt (Li.neg r))
abbrev sp_fall : Sp := spF K (fun a : Th × Md × List Int × Int => [thO K a.1, mdO K a.1.n a.2.1, dt a.2.2.1, .int a.2.2.2]) (fun a => WfTh a.1 ∧ WfMd a.1.n a.1.ps.length a.2.1 ∧ a.2.2.1.length = a.1.n + 1 ∧ (∀ x ∈ a.2.2.1, Bd 4000 x) ∧ Bd 4000 a.2.2.2)
  (fun a r => r = dt (Li.fall a.1.n a.1.ps.length a.2.1.nexts a.2.1.push a.2.1.add a.2.1.div a.2.2.1 a.2.2.2))
abbrev sp_are_shares : Sp := spF K (fun a : D × Nat => [a.1, .int a.2]) (fun a => ∃ n, Ok 4000 n a.1)
  (fun a r => ∃ b, r = .bl b ∧ (b = true → ∃ often numbers, a.1 = .tup [.int often, dl numbers] ∧ numbers.length = a.2 ∧ 0 ≤ often ∧ (∀ x ∈ numbers, 0 ≤ x) ∧ (∀ x ∈ numbers, Bd 4000 x) ∧ Bd 4000 often))
abbrev sp_shows : Sp := spF K (fun a : List (List Int) × List Int × D => [room a.1, dt a.2.1, a.2.2])
  (fun a => a.1.length ≤ 1000 ∧ (∃ m, m ≤ 20 ∧ a.2.1.length = m + 1) ∧ (∀ r ∈ a.1, r.length = a.2.1.length) ∧ (∀ r ∈ a.1, ∀ x ∈ r, Bd 4000 x) ∧ (∀ x ∈ a.2.1, Bd 20000 x) ∧ ∃ n, Ok 4000 n a.2.2)
  (fun a r => ∃ b, r = .bl b ∧ (b = true → Li.Shows a.1 a.2.1))
abbrev sp_all_show : Sp := spF K (fun a : List (List Int) × List (List Int) × D => [room a.1, room a.2.1, a.2.2])
  (fun a => a.1.length ≤ 1000 ∧ a.2.1.length ≤ 1000 ∧ (∃ m, m ≤ 20 ∧ (∀ r ∈ a.1, r.length = m + 1) ∧ (∀ r ∈ a.2.1, r.length = m + 1)) ∧ (∀ r ∈ a.1, ∀ x ∈ r, Bd 4000 x) ∧ (∀ r ∈ a.2.1, ∀ x ∈ r, Bd 20000 x) ∧ ∃ n, Ok 4000 n a.2.2)
  (fun a r => ∃ b, r = .bl b ∧ (b = true → ∀ t ∈ a.2.1, Li.Shows a.1 t))
abbrev sp_steps_show : Sp := spF K (fun a : Th × List (List Int) × List (List Int) × D => [thO K a.1, room a.2.1, room a.2.2.1, a.2.2.2])
  (fun a => WfTh a.1 ∧ a.2.1.length ≤ 100 ∧ a.2.2.1.length ≤ 100 ∧ (∀ r ∈ a.2.1, r.length = a.1.n + 1) ∧ (∀ r ∈ a.2.2.1, r.length = a.1.n + 1) ∧ (∀ r ∈ a.2.1, ∀ x ∈ r, Bd 1000 x) ∧ (∀ r ∈ a.2.2.1, ∀ x ∈ r, Bd 1000 x) ∧ ∃ n, Ok 4000 n a.2.2.2)
  (fun a r => ∃ b, r = .bl b ∧ (b = true → ∀ m ∈ a.1.ms, ∀ t ∈ a.2.2.1, Li.Shows (stand a.1.n a.1.ps (a.2.1 ++ m.rows)) (Li.reach a.1.n a.1.ps.length m.nexts m.push m.add m.div t)))
end
end Tx
end
section
set_option Elab.async false
set_option linter.all false
set_option maxRecDepth 100000
set_option maxHeartbeats 4000000
set_option autoImplicit false
/-! W3: rows summed, widened, reached. -/
namespace Tx
open PySem L2 Kr Kt Li
theorem map_get {α : Type} {f : α → D} {xs : List α} {k : Nat} {d : D} (h : (xs.map f)[k]? = some d) : ∃ x, xs[k]? = some x ∧ d = f x := by
  rw [List.getElem?_map] at h
  cases q : xs[k]? with
  | none => rw [q] at h; cases h
  | some x => rw [q] at h; cases h; exact ⟨x, rfl, rfl⟩
theorem mem_at {α : Type} {xs : List α} {k : Nat} {x : α} (h : xs[k]? = some x) : x ∈ xs := List.mem_of_getElem? h
theorem take_all {α : Type} {xs : List α} {k : Nat} (h : xs.length ≤ k) : xs.take k = xs := List.take_of_length_le h
theorem lin_min (ns : List Int) (rs : List (List Int)) (n : Nat) : lin (ns.take (min ns.length rs.length)) (rs.take (min ns.length rs.length)) n = lin ns rs n := by
  unfold lin
  have e : (ns.take (min ns.length rs.length)).zip (rs.take (min ns.length rs.length)) = ns.zip rs := by
    exact List.zip_eq_zip_take_min.symm
  rw [e]
theorem Bd.mono {a b : Nat} {i : Int} (h : Bd a i) (l : a ≤ b) : Bd b i := Nat.lt_of_lt_of_le h (Nat.pow_le_pow_right (by decide) l)
section
variable {P : Program} {w : World} {K : PySem.W.Frag} {mg : Str → Option Value} {base : Heap} {f : Addr} {fd : FuncData}
theorem ok_summed_by (T : Txt K mg) (F : FunD K "summed_by" "summed_by" (defArgs ssummed_by) (defBody ssummed_by) (defScope ssummed_by) [] [] f fd)  : FnOk P w K mg base CX0 1 f fd ["numbers", "lists", "many"] (sp_summed_by K) := by
  refine fn_ok F sc_summed_by (fun _ => rfl) (fun cdv A' outer s H E hr => ⟨_, (pss_cons (ps_set (i := 3) sc_summed_by.nd rfl (Or.inl rfl) (pe_op (mul_K (K := K) rfl) (pe_lst (pa_cons pe_int pa_nil)) (pv 2)))
      (pss_cons (ps_for PassesOwn.never rfl (zip_K (K := K) rfl rfl T.m_zip (pa_cons (pv 0) (pa_cons (pv 1) pa_nil))) (tup_K (K := K) (n := 2) rfl rfl (pgs_cons (pg_name (i := 4) sc_summed_by.nd rfl (Or.inl rfl)) (pgs_cons (pg_name (i := 5) sc_summed_by.nd rfl (Or.inl rfl)) pgs_nil))) (pss_one (ps_for PassesOwn.never rfl (pi_range1 rfl T.m_range (pa_cons (pv 2) pa_nil)) (pg_name (i := 6) sc_summed_by.nd rfl (Or.inl rfl)) (pss_one (ps_augS (pv 3) (pv 6) get_list (pe_op (mul_K (K := K) rfl) (pv 4) (pe_ix (ix_K (K := K) rfl) (pv 5) (pv 6) (fun _ _ => rfl))) ip_add set_list)))))
      (pss_one (ps_ret (pv 3))))), ?_⟩)
  rintro ⟨ns, ls, m⟩ ⟨h1, h2, h3, h4, h5, h6⟩
  simp only at h1 h2 h3 h4 h5 h6
  refine rq_ownD (ev_zeros (k := m) (by omega) (ev_var rfl)) fun a => ?_
  refine rq_forD (ei_zip (.inr rfl) (.inl rfl) (ev_var rfl) (ev_var rfl)) (fun k ρ => ∃ x4 x5 x6 : Option Sl, ρ = [some (.p (dt ns)), some (.p (tbl ls)), some (.p (.int m)), some (.o a ((lin (ns.take k) (ls.take k) m).map D.int)), x4, x5, x6]) ⟨none, none, none, rfl⟩ ?_ ?_
  · rintro k d ρ1 hd ⟨x4, x5, x6, rfl⟩
    obtain ⟨x, y, hx, hy, rfl⟩ := zipD_get hd
    obtain ⟨c, hc, rfl⟩ := map_get hx
    obtain ⟨r, hr, rfl⟩ := map_get hy
    have lr : r.length = m := h4 r (mem_at hr)
    have la : (lin (ns.take k) (ls.take k) m).length = m := lin_len fun q hq => h4 q (List.mem_of_mem_take hq)
    have ls' : (smul c r).length = m := by rw [smul_len, lr]
    refine ⟨_, _, tg_tup rfl (tgs_cons tg_name (tgs_cons tg_name tgs_nil)), ?_⟩
    refine r_forD (ei_range (n := m) (by omega) (by omega) (ev_var rfl)) (fun j ρ => ∃ x6 : Option Sl, ρ = [some (.p (dt ns)), some (.p (tbl ls)), some (.p (.int m)), some (.o a ((part (lin (ns.take k) (ls.take k) m) (smul c r) j).map D.int)), some (.p (.int c)), some (.p (dl r)), x6]) ⟨x6, rfl⟩ ?_ ?_
    · rintro j d ρ1 hd ⟨x6, rfl⟩
      obtain ⟨hj, rfl⟩ := rangeD_get hd
      rw [Int.toNat_natCast] at hj
      obtain ⟨v, hv⟩ : ∃ v, (lin (ns.take k) (ls.take k) m)[j]? = some v := ⟨_, List.getElem?_eq_getElem (by omega)⟩
      obtain ⟨u, hu⟩ : ∃ u, r[j]? = some u := ⟨_, List.getElem?_eq_getElem (by omega)⟩
      have hp : ((part (lin (ns.take k) (ls.take k) m) (smul c r) j).map D.int)[j]? = some (.int v) := by
        rw [List.getElem?_map, part_get la ls' hj, hv] <;> rfl
      refine ⟨_, _, tg_name, r_augI (j := j) rfl hp (ev_var rfl) (ev_mul (h5 c (mem_at hc)) (h6 r (mem_at hr) u (mem_at hu)) (by decide) (by decide) (by decide) (ev_var rfl) (ev_ixL (at_ints hu) (ev_var rfl) (ev_var rfl))) ⟨some (.p (.int j)), ?_⟩⟩
      have e : ((part (lin (ns.take k) (ls.take k) m) (smul c r) j).map D.int).set j (.int (v + c * u)) = (part (lin (ns.take k) (ls.take k) m) (smul c r) (j + 1)).map D.int := by
        rw [← part_step la ls' hv (smul_get hu), List.map_set]
      rw [e] <;> rfl
    · rintro ρ1 ⟨x6, rfl⟩
      rw [rangeD_len, Int.toNat_natCast, part_all la ls', ← lin_step hc hr]
      exact ⟨_, _, _, rfl⟩
  · rintro ρ1 ⟨x4, x5, x6, rfl⟩
    refine r_retO (i := 3) rfl ?_
    rw [zipD_len, List.length_map, List.length_map, lin_min]

theorem ok_added (T : Txt K mg) (F : FunD K "added" "added" (defArgs sadded) (defBody sadded) (defScope sadded) [] [] f fd)  : FnOk P w K mg base CX0 1 f fd ["rows", "numbers", "many"] (sp_added K) := by
  refine fn_ok F sc_added (fun _ => rfl) (fun cdv A' outer s H E hr => ⟨_, (pss_cons (ps_set (i := 3) sc_added.nd rfl (Or.inl rfl) (pe_op (mul_K (K := K) rfl) (pe_lst (pa_cons pe_int pa_nil)) (pe_op (add_K (K := K) rfl) (pv 2) pe_int)))
      (pss_cons (ps_for PassesOwn.never rfl (zip_K (K := K) rfl rfl T.m_zip (pa_cons (pv 0) (pa_cons (pv 1) pa_nil))) (tup_K (K := K) (n := 2) rfl rfl (pgs_cons (pg_name (i := 4) sc_added.nd rfl (Or.inl rfl)) (pgs_cons (pg_name (i := 5) sc_added.nd rfl (Or.inl rfl)) pgs_nil))) (pss_one (ps_for PassesOwn.never rfl (pi_range1 rfl T.m_range (pa_cons (pe_op (add_K (K := K) rfl) (pv 2) pe_int) pa_nil)) (pg_name (i := 6) sc_added.nd rfl (Or.inl rfl)) (pss_one (ps_augS (pv 3) (pv 6) get_list (pe_op (mul_K (K := K) rfl) (pv 5) (pe_ix (ix_K (K := K) rfl) (pv 4) (pv 6) (fun _ _ => rfl))) ip_add set_list)))))
      (pss_one (ps_ret (pe_callTy (tuple_K (K := K) rfl) rfl T.m_tuple bt_tuple (pa_cons (pv 3) pa_nil)))))), ?_⟩)
  rintro ⟨ls, ns, m⟩ ⟨h2, h1, h3, h4, h5, h6⟩
  simp only at h1 h2 h3 h4 h5 h6
  refine rq_ownD (ev_zeros (k := m + 1) (by omega) (ev_is (ev_add (ev_var rfl) ev_int) rfl)) fun a => ?_
  refine rq_forD (ei_zip (.inl rfl) (.inl rfl) (ev_var rfl) (ev_var rfl)) (fun k ρ => ∃ x4 x5 x6 : Option Sl, ρ = [some (.p (room ls)), some (.p (dl ns)), some (.p (.int m)), some (.o a ((lin (ns.take k) (ls.take k) (m + 1)).map D.int)), x4, x5, x6]) ⟨none, none, none, rfl⟩ ?_ ?_
  · rintro k d ρ1 hd ⟨x4, x5, x6, rfl⟩
    obtain ⟨x, y, hx, hy, rfl⟩ := zipD_get hd
    obtain ⟨r, hr, rfl⟩ := map_get hx
    obtain ⟨c, hc, rfl⟩ := map_get hy
    have lr : r.length = m + 1 := h4 r (mem_at hr)
    have la : (lin (ns.take k) (ls.take k) (m + 1)).length = m + 1 := lin_len fun q hq => h4 q (List.mem_of_mem_take hq)
    have ls' : (smul c r).length = m + 1 := by rw [smul_len, lr]
    refine ⟨_, _, tg_tup rfl (tgs_cons tg_name (tgs_cons tg_name tgs_nil)), ?_⟩
    refine r_forD (ei_range (n := (m : Int) + 1) (by omega) (by omega) (ev_add (ev_var rfl) ev_int)) (fun j ρ => ∃ x6 : Option Sl, ρ = [some (.p (room ls)), some (.p (dl ns)), some (.p (.int m)), some (.o a ((part (lin (ns.take k) (ls.take k) (m + 1)) (smul c r) j).map D.int)), some (.p (dt r)), some (.p (.int c)), x6]) ⟨x6, rfl⟩ ?_ ?_
    · rintro j d ρ1 hd ⟨x6, rfl⟩
      obtain ⟨hj, rfl⟩ := rangeD_get hd
      have hj : j < m + 1 := by omega
      obtain ⟨v, hv⟩ : ∃ v, (lin (ns.take k) (ls.take k) (m + 1))[j]? = some v := ⟨_, List.getElem?_eq_getElem (by omega)⟩
      obtain ⟨u, hu⟩ : ∃ u, r[j]? = some u := ⟨_, List.getElem?_eq_getElem (by omega)⟩
      have hp : ((part (lin (ns.take k) (ls.take k) (m + 1)) (smul c r) j).map D.int)[j]? = some (.int v) := by
        rw [List.getElem?_map, part_get la ls' hj, hv] <;> rfl
      refine ⟨_, _, tg_name, r_augI (j := j) rfl hp (ev_var rfl) (ev_mul (h5 c (mem_at hc)) (h6 r (mem_at hr) u (mem_at hu)) (by decide) (by decide) (by decide) (ev_var rfl) (ev_ixT (at_ints hu) (ev_var rfl) (ev_var rfl))) ⟨some (.p (.int j)), ?_⟩⟩
      have e : ((part (lin (ns.take k) (ls.take k) (m + 1)) (smul c r) j).map D.int).set j (.int (v + c * u)) = (part (lin (ns.take k) (ls.take k) (m + 1)) (smul c r) (j + 1)).map D.int := by
        rw [← part_step la ls' hv (smul_get hu), List.map_set]
      rw [e] <;> rfl
    · rintro ρ1 ⟨x6, rfl⟩
      rw [rangeD_len, show ((m : Int) + 1).toNat = m + 1 by omega, part_all la ls', ← lin_step hc hr]
      exact ⟨_, _, _, rfl⟩
  · rintro ρ1 ⟨x4, x5, x6, rfl⟩
    refine r_freeze (i := 3) rfl (r_retD (ev_tuple (ev_var rfl)) ?_)
    rw [zipD_len, List.length_map, List.length_map, Nat.min_comm, lin_min]

theorem ok_widened (T : Txt K mg) (F : FunD K "widened" "widened" (defArgs swidened) (defBody swidened) (defScope swidened) [] [] f fd)  : FnOk P w K mg base CX0 1 f fd ["rows", "many"] (sp_widened K) := by
  refine fn_ok F sc_widened (fun _ => rfl) (fun cdv A' outer s H E hr => ⟨_, (pss_one (ps_ret (pe_lc (own := [("row", 2)]) rfl sc_widened.nd (seq_K (K := K) rfl (pv 0)) (blkOk_by (by kernel_rfl)) (fun _ _ _ _ _ => (pg_name (i := 2) sc_widened.nd rfl (Or.inl rfl))) (fun _ _ _ _ _ => pts_nil) (fun _ _ _ _ _ => (pe_op (add_K (K := K) rfl) (pe_op (add_K (K := K) rfl) (pe_callTy (tuple_K (K := K) rfl) rfl T.m_tuple bt_tuple (pa_cons (pe_slice (sl_K (K := K) rfl) (pv 2) po_none (po_some (pe_un un_neg pe_int))) pa_nil)) (pe_op (mul_K (K := K) rfl) (pe_tup (pa_cons pe_int pa_nil)) (pv 1))) (pe_tup (pa_cons (pe_ix (ix_K (K := K) rfl) (pv 2) (pe_un un_neg pe_int) (fun _ _ => rfl)) pa_nil))))))), ?_⟩)
  rintro ⟨rs, p⟩ ⟨h1, h2, h3⟩
  simp only at h1 h2 h3
  refine r_retD (ev_lcD (fun d => match d with | .tup xs => .tup (xs.dropLast ++ (Li.zeros p).map D.int ++ [xs.getLastD .non]) | d => d) (ei_lst (ev_var rfl)) (by rw [List.length_map]; show rs.length ≤ 50000; omega) (fun _ h => h) fun d hd => ?_).toD ?_
  · obtain ⟨r, hr, rfl⟩ := List.mem_map.mp hd
    obtain ⟨hn, hl⟩ := h3 r hr
    refine ⟨_, tg_name, ?_⟩
    refine ev_is (ev_catI (a := r.dropLast ++ Li.zeros p) (b := [r.getLastD 0]) (by simp; omega) (ev_catI (by simp; omega) (ev_tupleT (ev_is (ev_slT (ev_var rfl) eo_none (eo_some (ev_neg ev_int))) ?_)) (ev_zerosT (k := p) (by omega) (ev_var rfl))) (ev_one (ev_ixT (at_lastI hn) (ev_var rfl) (ev_neg ev_int)))) ?_
    · rw [cut_last, map_dropLast]
    · show D.tup _ = D.tup _
      have e : (r.map D.int).getLastD .non = .int (r.getLastD 0) := by
        rw [List.getLastD_eq_getLast?, List.getLast?_map, lastD_some hn] <;> rfl
      rw [e, List.map_append, List.map_append, map_dropLast] <;> rfl
  · show D.lst _ = D.lst _
    rw [List.map_map, List.map_map]
    congr 1
    refine List.map_congr_left fun r hr => ?_
    obtain ⟨hn, hl⟩ := h3 r hr
    have e : (r.map D.int).getLastD .non = .int (r.getLastD 0) := by
      rw [List.getLastD_eq_getLast?, List.getLast?_map, lastD_some hn] <;> rfl
    show D.tup _ = D.tup ((widen p r).map D.int)
    unfold widen
    rw [e, List.map_append, List.map_append, map_dropLast] <;> rfl

theorem ok_turned_about (T : Txt K mg) (F : FunD K "turned_about" "turned_about" (defArgs sturned_about) (defBody sturned_about) (defScope sturned_about) [] [] f fd)  : FnOk P w K mg base CX0 1 f fd ["row"] (sp_turned_about K) := by
  refine fn_ok F sc_turned_about (fun _ => rfl) (fun cdv A' outer s H E hr => ⟨_, (pss_one (ps_ret (pe_callTy (tuple_K (K := K) rfl) rfl T.m_tuple bt_tuple (pa_cons (pe_lc (own := [("number", 1)]) rfl sc_turned_about.nd (seq_K (K := K) rfl (pv 0)) (blkOk_by (by kernel_rfl)) (fun _ _ _ _ _ => (pg_name (i := 1) sc_turned_about.nd rfl (Or.inl rfl))) (fun _ _ _ _ _ => pts_nil) (fun _ _ _ _ _ => (pe_op op_sub pe_int (pv 1)))) pa_nil)))), ?_⟩)
  intro r hr
  have hr : r.length ≤ 1000 := hr
  refine r_retD (ev_tuple (ev_lcD (fun d => match d with | .int i => .int (0 - i) | d => d) (ei_tup (ev_var rfl)) (by rw [List.length_map]; omega) (fun _ h => h) fun d hd => ?_).toD) ?_
  · obtain ⟨i, hi, rfl⟩ := List.mem_map.mp hd
    exact ⟨_, tg_name, ev_sub ev_int (ev_var rfl)⟩
  · show D.tup _ = D.tup _
    rw [List.map_map, Li.neg, List.map_map] <;> rfl

end
end Tx
end
section
set_option Elab.async false
set_option linter.all false
set_option maxRecDepth 100000
set_option maxHeartbeats 4000000
set_option autoImplicit false
/-! Wb: slices of ints; all of a list of tests known one way. -/
namespace Tx
open PySem L2 Kr Kt Li
section
variable {K : PySem.W.Frag} {ρ : Rho} {ta tb te : TE}
theorem ev_takeT {r : List Int} {k : Nat} (h : EvD K ta ρ (dt r)) (hk : EvD K tb ρ (.int k)) : EvD K (tSl (rSlX K) ta tNoPart (tPart tb)) ρ (dt (r.take k)) :=
  ev_is (ev_slT h eo_none (eo_some hk)) (by rw [cut_take]; unfold dt; rw [List.map_take])
theorem ev_dropT {r : List Int} {k : Nat} (h : EvD K ta ρ (dt r)) (hk : EvD K tb ρ (.int k)) : EvD K (tSl (rSlX K) ta (tPart tb) tNoPart) ρ (dt (r.drop k)) :=
  ev_is (ev_slT h (eo_some hk) eo_none) (by rw [cut_drop]; unfold dt; rw [List.map_drop])
theorem ev_lastT {r : List Int} (h : EvD K ta ρ (dt r)) (hk : EvD K tb ρ (.int (-1))) : EvD K (tSl (rSlX K) ta tNoPart (tPart tb)) ρ (dt r.dropLast) :=
  ev_is (ev_slT h eo_none (eo_some hk)) (by rw [cut_last]; unfold dt; rw [List.map_dropLast])
theorem all2_bl {F : D → D → Prop} {Pd : D → Prop} : ∀ {ds es : List D}, All2 F ds es → (∀ d e, F d e → ∃ b, e = .bl b ∧ (b = true → Pd d)) → ∃ bs : List Bool, es = bs.map D.bl ∧ (bs.all id = true → ∀ d ∈ ds, Pd d)
  | _, _, .nil, _ => ⟨[], rfl, fun _ d h => nomatch h⟩
  | _, _, .cons (d := x) (ds := ds) a c, k => by
    obtain ⟨bs, e, h⟩ := all2_bl c k
    obtain ⟨b, e1, h1⟩ := k _ _ a
    refine ⟨b :: bs, by rw [e1, e] <;> rfl, fun hb d hd => ?_⟩
    rw [List.all_cons, Bool.and_eq_true] at hb
    rcases List.mem_cons.mp hd with rfl | hd
    · exact h1 hb.1
    · exact h hb.2 d hd
theorem ev_allP {Pd : D → Prop} {wi : TI} {g : TG} {vs js : List Nat} {ds : List D} (hi : EvI K wi ρ (fun x => x = ds)) (hz : ds.length ≤ 50000) (hj : ∀ j ∈ js, j ∈ vs)
    (hb : ∀ d, d ∈ ds → ∃ ρ1, Tgt K g js d (wipeR ρ vs) ρ1 ∧ EvR K te ρ1 (fun e => ∃ b, e = .bl b ∧ (b = true → Pd d))) : EvR K (tCB (rAll K) (tCons (tLc wi g tYes te vs) tNil)) ρ (fun e => ∃ b, e = .bl b ∧ (b = true → ∀ d ∈ ds, Pd d)) := by
  have h := (ev_lc (F := fun d e => ∃ b, e = .bl b ∧ (b = true → Pd d)) hi (fun x e => by rw [e]; exact hz) hj fun x d e hd => hb d (by rw [← e]; exact hd)).toR
  refine (ev_allR (P := fun bs => bs.all id = true → ∀ d ∈ ds, Pd d) (h.mono fun d ⟨xs, e1, ys, e2, a⟩ => ?_)).mono fun d ⟨b, e1, ns, e2, e3⟩ => ⟨b, e1, fun hb => e3 (by rw [← e2]; exact hb)⟩
  subst e2
  obtain ⟨bs, e, h⟩ := all2_bl a fun _ _ z => z
  exact ⟨bs, by rw [e1, e], h⟩
end
/-! plain -/
theorem zeros_take (p k : Nat) (h : k ≤ p) : (zeros p).take k = zeros k := by
  rw [List.take_replicate, Nat.min_eq_left h]
theorem zeros_drop (p k : Nat) : (zeros p).drop k = zeros (p - k) := by rw [List.drop_replicate]
theorem range_dot {r a : List Int} {n : Nat} (h : a.length = n) (hn : n ≤ r.length) : (List.range n).map (fun i => r.getD i 0 * a.getD i 0) = List.zipWith (· * ·) (r.take n) a := by
  apply List.ext_getElem
  · simp; omega
  · intro i h1 h2
    simp at h1 h2
    rw [List.getElem_map, List.getElem_zipWith, List.getElem_range, List.getElem_take, List.getD_eq_getElem?_getD, List.getD_eq_getElem?_getD, List.getElem?_eq_getElem (by omega), List.getElem?_eq_getElem (by omega)] <;> rfl
theorem get_ex {α : Type} {r : List α} {k : Nat} (h : k < r.length) : ∃ x, r[k]? = some x ∧ x ∈ r := ⟨r[k], List.getElem?_eq_getElem h, List.getElem_mem h⟩
theorem getD_some {r : List Int} {k : Nat} {x : Int} (h : r[k]? = some x) : r.getD k 0 = x := by rw [List.getD_eq_getElem?_getD, h] <;> rfl
theorem ne_nil_len {α : Type} {r : List α} {n : Nat} (h : r.length = n + 1) : r ≠ [] := fun e => by rw [e] at h; cases h
theorem last_mem {r : List Int} (h : r ≠ []) : r.getLastD 0 ∈ r := by
  rw [List.getLastD_eq_getLast?, List.getLast?_eq_some_getLast h]
  exact List.getLast_mem h
/-- ints of a list of trees -/
theorem ints_of {p : Int → Prop} : ∀ {ys : List D}, (∀ d ∈ ys, ∃ i, d = .int i ∧ p i) → ∃ ns : List Int, ys = ns.map D.int ∧ ∀ x ∈ ns, p x
  | [], _ => ⟨[], rfl, fun _ h => nomatch h⟩
  | y :: ys, h => by
    obtain ⟨ns, e, k⟩ := ints_of fun d hd => h d (List.mem_cons_of_mem _ hd)
    obtain ⟨i, e1, k1⟩ := h y List.mem_cons_self
    refine ⟨i :: ns, by rw [e1, e] <;> rfl, fun x hx => ?_⟩
    rcases List.mem_cons.mp hx with rfl | hx
    · exact k1
    · exact k x hx
/-- a row from which the mode's share is taken, to the place k -/
def partF (r v : List Int) (c : Int) (k : Nat) : List Int := List.zipWith (fun a b => a - c * b) (r.take k) (v.take k) ++ r.drop k
theorem partF_len {r v : List Int} {c : Int} {k : Nat} (h1 : k ≤ r.length) (h2 : k ≤ v.length) : (partF r v c k).length = r.length := by
  unfold partF
  rw [List.length_append, List.length_zipWith, List.length_take, List.length_take, List.length_drop]; omega
theorem partF_get {r v : List Int} {c : Int} {k : Nat} (h1 : k < r.length) (h2 : k ≤ v.length) : (partF r v c k)[k]? = r[k]? := by
  unfold partF
  rw [List.getElem?_append_right (by rw [List.length_zipWith, List.length_take, List.length_take]; omega), List.length_zipWith, List.length_take, List.length_take, List.getElem?_drop]
  congr 1; omega
theorem partF_step {r v : List Int} {c : Int} {k : Nat} {x y : Int} (hx : r[k]? = some x) (hy : v[k]? = some y) : (partF r v c k).set k (x - c * y) = partF r v c (k + 1) := by
  have h1 := (List.getElem?_eq_some_iff.mp hx).1
  have h2 := (List.getElem?_eq_some_iff.mp hy).1
  have e : r.drop k = x :: r.drop (k + 1) := by rw [List.drop_eq_getElem_cons h1, (List.getElem?_eq_some_iff.mp hx).2]
  unfold partF
  rw [take_snoc hx, take_snoc hy, List.zipWith_append (by rw [List.length_take, List.length_take]; omega), e]
  have l : (List.zipWith (fun a b => a - c * b) (r.take k) (v.take k)).length = k := by rw [List.length_zipWith, List.length_take, List.length_take]; omega
  rw [List.set_append_right _ _ (by omega), l, Nat.sub_self, List.append_assoc] <;> rfl
theorem partF_last {r v : List Int} {c : Int} {n : Nat} (h1 : n < r.length) (h2 : n ≤ v.length) : (partF r v c n).getLast? = some (r.getLastD 0) := by
  have hn : r ≠ [] := fun e => by rw [e] at h1; cases h1
  unfold partF
  rw [List.getLast?_append, List.getLast?_drop, if_neg (by omega), lastD_some hn] <;> rfl
theorem partF_fin {r v : List Int} {c y : Int} {n : Nat} (h1 : n < r.length) (h2 : n ≤ v.length) : (partF r v c n).set (r.length - 1) y = List.zipWith (fun a b => a - c * b) (r.take n) (v.take n) ++ ((r.drop n).dropLast ++ [y]) := by
  have l : (List.zipWith (fun a b => a - c * b) (r.take n) (v.take n)).length = n := by rw [List.length_zipWith, List.length_take, List.length_take]; omega
  unfold partF
  rw [List.set_append_right _ _ (by rw [l]; omega), l]
  congr 1
  have hd : r.drop n ≠ [] := fun e => by
    have := congrArg List.length e
    rw [List.length_drop] at this
    simp at this; omega
  obtain ⟨a, b, e⟩ : ∃ a b, r.drop n = a ++ [b] := ⟨_, _, (List.dropLast_concat_getLast hd).symm⟩
  have le : r.length - 1 - n = a.length := by
    have := congrArg List.length e
    rw [List.length_drop, List.length_append, List.length_singleton] at this
    omega
  rw [e, le, List.dropLast_concat, List.set_append_right _ _ (Nat.le_refl _), Nat.sub_self] <;> rfl
theorem pRows_take (n : Nat) (ps : List (Int × Int)) : pRows n ps = (List.range ps.length).flatMap fun i => [pRow n ps.length i 1 (ps.getD i (0, 0)).2, pRow n ps.length i (-1) (0 - (ps.getD i (0, 0)).1)] := rfl
def pRowsK (n : Nat) (ps : List (Int × Int)) (k : Nat) : List (List Int) := (List.range k).flatMap fun i => [pRow n ps.length i 1 (ps.getD i (0, 0)).2, pRow n ps.length i (-1) (0 - (ps.getD i (0, 0)).1)]
theorem pRowsK_step {n k : Nat} {ps : List (Int × Int)} {b : Int × Int} (h : ps[k]? = some b) : pRowsK n ps (k + 1) = pRowsK n ps k ++ [pRow n ps.length k 1 b.2] ++ [pRow n ps.length k (-1) (0 - b.1)] := by
  unfold pRowsK
  rw [List.range_succ, List.flatMap_append, List.append_assoc]
  congr 1
  rw [List.flatMap_singleton, List.getD_eq_getElem?_getD, h] <;> rfl
theorem pRowsK_len (n k : Nat) (ps : List (Int × Int)) : (pRowsK n ps k).length = 2 * k := by
  induction k with
  | zero => rfl
  | succ k ih =>
    unfold pRowsK at ih ⊢
    rw [List.range_succ, List.flatMap_append, List.length_append, ih, List.flatMap_singleton] <;> rfl
end Tx
end
section
set_option Elab.async false
set_option linter.all false
set_option maxRecDepth 100000
set_option maxHeartbeats 4000000
set_option autoImplicit false
/-! W4: rows of pushes, standing, reach, fall. -/
namespace Tx
open PySem L2 Kr Kt Li
section
variable {K : PySem.W.Frag} {ρ : Rho} {ta : TE} {C : Addr} {m : Str}
theorem ev_pushes {t : Th} (ha : EvD K ta ρ (thO K t)) (hm : m ∉ nsThing) : EvD K (tMeth (cThing K) m (sp_Thing_pushes K) [] E0 ta tNil) ρ (prs t.ps) :=
  ev_meth (ns := nsThing) hm ha ea_nil fun es e => ⟨t, by rw [e] <;> rfl, trivial, fun d z => z⟩
theorem ev_modes {t : Th} (ha : EvD K ta ρ (thO K t)) (hm : m ∉ nsThing) : EvD K (tMeth (cThing K) m (sp_Thing_modes K) [] E0 ta tNil) ρ (.lst (t.ms.map (mdO K t.n))) :=
  ev_meth (ns := nsThing) hm ha ea_nil fun es e => ⟨t, by rw [e] <;> rfl, trivial, fun d z => z⟩
end
theorem enumD_get {xs : List D} {k : Nat} {d : D} (h : (enumD xs)[k]? = some d) : ∃ y, xs[k]? = some y ∧ d = .tup [.int k, y] := by
  obtain ⟨x, y, hx, hy, rfl⟩ := zipD_get h
  obtain ⟨_, rfl⟩ := rangeD_get hx
  exact ⟨y, hy, rfl⟩
theorem ints_inj {a b : List Int} (h : a.map D.int = b.map D.int) : a = b := by
  have := congrArg (List.map fun d => match d with | D.int i => i | _ => 0) h
  rw [List.map_map, List.map_map] at this
  simpa [Function.comp_def] using this
theorem mem_dl {α : Type} {r : List α} {x : α} (h : x ∈ r.dropLast) : x ∈ r := (List.dropLast_sublist r).subset h
theorem enumD_len (xs : List D) : (enumD xs).length = xs.length := by unfold enumD; rw [zipD_len, rangeD_len, Nat.min_self]
section
variable {P : Program} {w : World} {K : PySem.W.Frag} {mg : Str → Option Value} {base : Heap} {f : Addr} {fd : FuncData}
theorem ok_push_rows (T : Txt K mg) (F : FunD K "push_rows" "push_rows" (defArgs spush_rows) (defBody spush_rows) (defScope spush_rows) [] [] f fd) (k_Thing_pushes : CalM P w K mg base (cThing K) "pushes" 1 ["self"] (sp_Thing_pushes K)) : FnOk P w K mg base CX0 2 f fd ["thing"] (sp_push_rows K) := by
  refine fn_ok F sc_push_rows (fun _ => rfl) (fun cdv A' outer s H E hr => ⟨_, (pss_cons (ps_set (i := 1) sc_push_rows.nd rfl (Or.inl rfl) (pe_mt0 k_Thing_pushes (hr.mono (by decide)) (pv 0)))
      (pss_cons (ps_set (i := 2) sc_push_rows.nd rfl (Or.inl rfl) (pe_op (mul_K (K := K) rfl) (pe_tup (pa_cons pe_int pa_nil)) (pe_callB (len_K (K := K) rfl) rfl T.m_len bt_len (pa_cons (pv 1) pa_nil))))
      (pss_cons (ps_set (i := 3) sc_push_rows.nd rfl (Or.inl rfl) (pe_lst pa_nil))
      (pss_cons (ps_for PassesOwn.never rfl (enum_K (K := K) rfl rfl T.m_enumerate (pa_cons (pv 1) pa_nil)) (tup_K (K := K) (n := 2) rfl rfl (pgs_cons (pg_name (i := 4) sc_push_rows.nd rfl (Or.inl rfl)) (pgs_cons (tup_K (K := K) (n := 2) rfl rfl (pgs_cons (pg_name (i := 5) sc_push_rows.nd rfl (Or.inl rfl)) (pgs_cons (pg_name (i := 6) sc_push_rows.nd rfl (Or.inl rfl)) pgs_nil))) pgs_nil))) (pss_cons (ps_set (i := 7) sc_push_rows.nd rfl (Or.inl rfl) (pe_op (add_K (K := K) rfl) (pe_op (mul_K (K := K) rfl) (pe_tup (pa_cons pe_int pa_nil)) (fld_K (K := K) rfl (pv 0) rfl)) (pe_slice (sl_K (K := K) rfl) (pv 2) po_none (po_some (pv 4)))))
      (pss_cons (ps_expr (pe_bm PySem.F.plainAttrs_list PySem.F.slot_list_append PySem.F.type_list_append mt_append (pv 3) (pa_cons (pe_op (add_K (K := K) rfl) (pe_op (add_K (K := K) rfl) (pe_op (add_K (K := K) rfl) (pv 7) (pe_tup (pa_cons pe_int pa_nil))) (pe_slice (sl_K (K := K) rfl) (pv 2) (po_some (pe_op (add_K (K := K) rfl) (pv 4) pe_int)) po_none)) (pe_tup (pa_cons (pv 6) pa_nil))) pa_nil)))
      (pss_one (ps_expr (pe_bm PySem.F.plainAttrs_list PySem.F.slot_list_append PySem.F.type_list_append mt_append (pv 3) (pa_cons (pe_op (add_K (K := K) rfl) (pe_op (add_K (K := K) rfl) (pe_op (add_K (K := K) rfl) (pv 7) (pe_tup (pa_cons (pe_un un_neg pe_int) pa_nil))) (pe_slice (sl_K (K := K) rfl) (pv 2) (po_some (pe_op (add_K (K := K) rfl) (pv 4) pe_int)) po_none)) (pe_tup (pa_cons (pe_op op_sub pe_int (pv 5)) pa_nil))) pa_nil)))))))
      (pss_one (ps_ret (pv 3))))))), ?_⟩)
  intro t h
  have hp := h.pl
  have hn := h.n3
  refine rq_setD (d := prs t.ps) (ev_pushes (ev_var rfl) (by decide +kernel)) ?_
  refine rq_setD (ev_zerosT (k := t.ps.length) (by omega) (ev_is (ev_len (ev_var rfl)) (by rw [List.length_map]))) ?_
  refine rq_ownD ev_nil fun a => ?_
  refine rq_forD (ei_enum (xs := t.ps.map fun b => .tup [.int b.1, .int b.2]) (ev_var rfl)) (fun k ρ => ∃ x4 x5 x6 x7 : Option Sl, ρ = [some (.p (thO K t)), some (.p (prs t.ps)), some (.p (dt (Li.zeros t.ps.length))), some (.o a ((pRowsK t.n t.ps k).map dt)), x4, x5, x6, x7]) ⟨none, none, none, none, rfl⟩ ?_ ?_
  · rintro k d ρ1 hd ⟨x4, x5, x6, x7, rfl⟩
    obtain ⟨y, hy, rfl⟩ := enumD_get hd
    obtain ⟨b, hb, rfl⟩ := map_get hy
    have hk : k < t.ps.length := (List.getElem?_eq_some_iff.mp hb).1
    refine ⟨_, _, tg_tup rfl (tgs_cons tg_name (tgs_cons (tg_tup rfl (tgs_cons tg_name (tgs_cons tg_name tgs_nil))) tgs_nil)), ?_⟩
    have l1 : (pRowsK t.n t.ps k).length ≤ 12 := by rw [pRowsK_len]; omega
    have e1 : zeros t.n ++ (zeros t.ps.length).take k = zeros t.n ++ zeros k := by rw [zeros_take _ _ (Nat.le_of_lt hk)]
    refine rq_setD (d := dt (zeros t.n ++ zeros k)) (ev_is (ev_catI (by simp; omega) (ev_zerosT (k := t.n) (by omega) (ev_fld T.cl_Thing T.n_Thing_many rfl (ev_var rfl))) (ev_takeT (ev_var rfl) (ev_var rfl))) (by rw [e1])) ?_
    have row : ∀ (s c : Int), zeros t.n ++ zeros k ++ [s] ++ (zeros t.ps.length).drop (k + 1) ++ [c] = pRow t.n t.ps.length k s c := fun s c => by
      unfold pRow; rw [zeros_drop]
    refine rq_app (R := fun d => d = dt (pRow t.n t.ps.length k 1 b.2)) rfl (by rw [List.length_map]; omega) (ev_is (ev_catI (by simp; omega) (ev_catI (by simp; omega) (ev_catI (by simp; omega) (ev_var rfl) (ev_one ev_int)) (ev_dropT (k := k + 1) (ev_var rfl) (ev_is (ev_add (ev_var rfl) ev_int) rfl))) (ev_one (ev_var rfl))) (by rw [row])) fun d e => ?_
    subst e
    refine r_app (R := fun d => d = dt (pRow t.n t.ps.length k (-1) (0 - b.1))) rfl (by rw [List.length_append, List.length_map]; show (pRowsK t.n t.ps k).length + 1 ≤ 50000; omega) (ev_is (ev_catI (by simp; omega) (ev_catI (by simp; omega) (ev_catI (by simp; omega) (ev_var rfl) (ev_one (ev_neg ev_int))) (ev_dropT (k := k + 1) (ev_var rfl) (ev_is (ev_add (ev_var rfl) ev_int) rfl))) (ev_one (ev_sub ev_int (ev_var rfl)))) (by rw [row])) fun d e => ?_
    subst e
    rw [pRowsK_step hb, List.map_append, List.map_append]
    exact ⟨_, _, _, _, rfl⟩
  · rintro ρ1 ⟨x4, x5, x6, x7, rfl⟩
    refine r_retO (i := 3) rfl ?_
    rw [enumD_len, List.length_map] <;> rfl

theorem ok_standing (T : Txt K mg) (F : FunD K "standing" "standing" (defArgs sstanding) (defBody sstanding) (defScope sstanding) [] [] f fd) (k_Thing_pushes : CalM P w K mg base (cThing K) "pushes" 1 ["self"] (sp_Thing_pushes K)) (k_widened : Cal P w K mg base "widened" 1 ["rows", "many"] (sp_widened K)) (k_push_rows : Cal P w K mg base "push_rows" 2 ["thing"] (sp_push_rows K)) : FnOk P w K mg base CX0 3 f fd ["thing", "rows"] (sp_standing K) := by
  refine fn_ok F sc_standing (fun _ => rfl) (fun cdv A' outer s H E hr => ⟨_, (pss_one (ps_ret (pe_op (add_K (K := K) rfl) (pe_cal k_widened (hr.mono (by decide)) rfl (pa_cons (pv 1) (pa_cons (pe_callB (len_K (K := K) rfl) rfl T.m_len bt_len (pa_cons (pe_mt0 k_Thing_pushes (hr.mono (by decide)) (pv 0)) pa_nil)) pa_nil))) (pe_cal k_push_rows (hr.mono (by decide)) rfl (pa_cons (pv 0) pa_nil))))), ?_⟩)
  rintro ⟨t, rs⟩ ⟨h, h2, h3⟩
  have hp : t.ps.length ≤ 6 := h.pl
  have h2 : rs.length ≤ 1000 := h2
  refine r_retD (ev_cat (xs := (rs.map (widen t.ps.length)).map dt) (ys := (pRows t.n t.ps).map dt) ?_ (ev_callD (rs, t.ps.length) (ea_consD (ev_var rfl) (ea_consD (ev_is (ev_len (ev_pushes (ev_var rfl) (by decide +kernel))) (by rw [List.length_map])) ea_nil)) ⟨h2, hp, h3⟩) (ev_callD t (ea_consD (ev_var rfl) ea_nil) h)).toD ?_
  · have := pRowsK_len t.n t.ps.length t.ps
    have e : (pRows t.n t.ps).length = 2 * t.ps.length := this
    rw [List.length_map, List.length_map, List.length_map, e]; omega
  · show D.lst _ = D.lst _
    unfold stand
    rw [List.map_append]

theorem ok_reach (T : Txt K mg) (F : FunD K "reach" "reach" (defArgs sreach) (defBody sreach) (defScope sreach) [] [] f fd) (k_Thing_pushes : CalM P w K mg base (cThing K) "pushes" 1 ["self"] (sp_Thing_pushes K)) (k_summed_by : Cal P w K mg base "summed_by" 1 ["numbers", "lists", "many"] (sp_summed_by K)) : FnOk P w K mg base CX0 2 f fd ["thing", "mode", "row"] (sp_reach K) := by
  refine fn_ok F sc_reach (fun _ => rfl) (fun cdv A' outer s H E hr => ⟨_, (pss_cons (ps_set (i := 3) sc_reach.nd rfl (Or.inl rfl) (pe_cal k_summed_by (hr.mono (by decide)) rfl (pa_cons (pe_slice (sl_K (K := K) rfl) (pv 2) po_none (po_some (pe_un un_neg pe_int))) (pa_cons (fld_K (K := K) rfl (pv 1) rfl) (pa_cons (fld_K (K := K) rfl (pv 0) rfl) pa_nil)))))
      (pss_cons (ps_set (i := 3) sc_reach.nd rfl (Or.inl rfl) (pe_op (add_K (K := K) rfl) (pv 3) (pe_cal k_summed_by (hr.mono (by decide)) rfl (pa_cons (pe_slice (sl_K (K := K) rfl) (pv 2) po_none (po_some (pe_un un_neg pe_int))) (pa_cons (fld_K (K := K) rfl (pv 1) rfl) (pa_cons (pe_callB (len_K (K := K) rfl) rfl T.m_len bt_len (pa_cons (pe_mt0 k_Thing_pushes (hr.mono (by decide)) (pv 0)) pa_nil)) pa_nil))))))
      (pss_cons (ps_set (i := 4) sc_reach.nd rfl (Or.inl rfl) (pe_op op_sub (pe_op (mul_K (K := K) rfl) (fld_K (K := K) rfl (pv 1) rfl) (pe_ix (ix_K (K := K) rfl) (pv 2) (pe_un un_neg pe_int) (fun _ _ => rfl))) (pe_callB (sum_K (K := K) rfl rfl) rfl T.m_sum bt_sum (pa_cons (pe_lc (own := [("i", 5)]) rfl sc_reach.nd (pi_range1 rfl T.m_range (pa_cons (fld_K (K := K) rfl (pv 0) rfl) pa_nil)) (blkOk_by (by kernel_rfl)) (fun _ _ _ _ _ => (pg_name (i := 5) sc_reach.nd rfl (Or.inl rfl))) (fun _ _ _ _ _ => pts_nil) (fun _ _ _ _ _ => (pe_op (mul_K (K := K) rfl) (pe_ix (ix_K (K := K) rfl) (pv 2) (pv 5) (fun _ _ => rfl)) (pe_ix (ix_K (K := K) rfl) (fld_K (K := K) rfl (pv 1) rfl) (pv 5) (fun _ _ => rfl))))) pa_nil))))
      (pss_one (ps_ret (pe_op (add_K (K := K) rfl) (pe_callTy (tuple_K (K := K) rfl) rfl T.m_tuple bt_tuple (pa_cons (pv 3) pa_nil)) (pe_tup (pa_cons (pv 4) pa_nil)))))))), ?_⟩)
  rintro ⟨t, m, r⟩ ⟨h, hm, h3, h4⟩
  have hm : WfMd t.n t.ps.length m := hm
  have hp : t.ps.length ≤ 6 := h.pl
  have hn : t.n ≤ 3 := h.n3
  have h3 : r.length = t.n + 1 := h3
  have rn : r ≠ [] := ne_nil_len h3
  have db : ∀ x ∈ r.dropLast, Bd 4000 x := fun x hx => h4 x (mem_dl hx)
  have lr : r.dropLast.length ≤ 1000 := by rw [List.length_dropLast]; omega
  refine rq_setD (d := dl (lin r.dropLast m.nexts t.n)) (ev_callD (r.dropLast, m.nexts, t.n) (ea_consD (ev_lastT (ev_var rfl) (ev_neg ev_int)) (ea_consD (ev_fld T.cl_Mode T.n_Mode_nexts rfl (ev_var rfl)) (ea_consD (ev_fld T.cl_Thing T.n_Thing_many rfl (ev_var rfl)) ea_nil))) ⟨lr, by show m.nexts.length ≤ 1000; rw [hm.nl]; omega, by show t.n ≤ 10; omega, hm.nw, db, fun q hq x hx => (hm.bn q hq x hx).mono (by decide)⟩) ?_
  refine rq_setD (d := dl (lin r.dropLast m.nexts t.n ++ lin r.dropLast m.push t.ps.length)) (ev_is (ev_cat (xs := (lin r.dropLast m.nexts t.n).map D.int) (ys := (lin r.dropLast m.push t.ps.length).map D.int) ?_ (ev_var rfl) (ev_callD (r.dropLast, m.push, t.ps.length) (ea_consD (ev_lastT (ev_var rfl) (ev_neg ev_int)) (ea_consD (ev_fld T.cl_Mode T.n_Mode_push rfl (ev_var rfl)) (ea_consD (ev_is (ev_len (ev_pushes (ev_var rfl) (by decide +kernel))) (by rw [List.length_map])) ea_nil))) ⟨lr, by show m.push.length ≤ 1000; rw [hm.pl]; omega, by show t.ps.length ≤ 10; omega, hm.pw, db, fun q hq x hx => (hm.bp q hq x hx).mono (by decide)⟩)).toD (by unfold dl; rw [List.map_append])) ?_
  · rw [List.length_map, List.length_map, lin_len hm.nw, lin_len hm.pw]; omega
  refine rq_setD (d := .int (m.div * r.getLastD 0 - dotI (r.take t.n) m.add)) (ev_sub (ev_mul (hm.bd.mono (show 1000 ≤ 4000 by decide)) (h4 _ (last_mem rn)) (by decide) (by decide) (by decide) (ev_fld T.cl_Mode T.n_Mode_divisor rfl (ev_var rfl)) (ev_ixT (at_lastI rn) (ev_var rfl) (ev_neg ev_int))) (ev_is (ev_sum (ns := (List.range t.n).map fun i => r.getD i 0 * m.add.getD i 0) (ev_is (ev_lcD (fun d => match d with | .int i => .int (r.getD i.toNat 0 * m.add.getD i.toNat 0) | d => d) (ei_range (n := t.n) (by omega) (by omega) (ev_fld T.cl_Thing T.n_Thing_many rfl (ev_var rfl))) (by rw [rangeD_len]; omega) (fun _ h => h) fun d hd => ?_).toD ?_)) ?_)) ?_
  · obtain ⟨k, hk⟩ := List.mem_iff_getElem?.mp hd
    obtain ⟨hk', rfl⟩ := rangeD_get hk
    have hk' : k < t.n := by omega
    obtain ⟨x, hx, mx⟩ := get_ex (r := r) (k := k) (by omega)
    obtain ⟨y, hy, my⟩ := get_ex (r := m.add) (k := k) (by rw [hm.al]; exact hk')
    refine ⟨_, tg_name, ev_is (ev_mul (h4 x mx) ((hm.ba y my).mono (show 1000 ≤ 4000 by decide)) (by decide) (by decide) (by decide) (ev_ixT (at_ints hx) (ev_var rfl) (ev_var rfl)) (ev_ixL (at_ints hy) (ev_fld T.cl_Mode T.n_Mode_add rfl (ev_var rfl)) (ev_var rfl))) ?_⟩
    show D.int _ = D.int _
    rw [Int.toNat_natCast, getD_some hx, getD_some hy]
  · show D.lst _ = D.lst _
    rw [Int.toNat_natCast, rangeD, List.map_map, List.map_map] <;> rfl
  · rw [range_dot hm.al (by omega)] <;> rfl
  refine r_retD (ev_catI (a := lin r.dropLast m.nexts t.n ++ lin r.dropLast m.push t.ps.length) ?_ (ev_tuple (ev_var rfl)) (ev_one (ev_var rfl))) rfl
  rw [List.length_append, lin_len hm.nw, lin_len hm.pw, List.length_singleton]; omega

theorem ok_are_shares (T : Txt K mg) (F : FunD K "are_shares" "are_shares" (defArgs sare_shares) (defBody sare_shares) (defScope sare_shares) [] [] f fd) (k_is_whole : Cal P w K mg base "is_whole" 1 ["thing"] (sp_is_whole K)) : FnOk P w K mg base CX0 2 f fd ["thing", "many"] (sp_are_shares K) := by
  refine fn_ok F sc_are_shares (fun _ => rfl) (fun cdv A' outer s H E hr => ⟨_, (pss_cons (ps_if (PW.pt (pw_or (pt_not (pt_val (pe_callB (isi_K (K := K) rfl) rfl T.m_isinstance bt_isinstance (pa_cons (pv 0) (pa_cons (pe_bltn (v := .ty "tuple") rfl T.m_tuple bt_tuple rfl) pa_nil))))) (pw_or (pt_cmpR (ne_K (K := K) rfl hr.units) (pe_callB (len_K (K := K) rfl) rfl T.m_len bt_len (pa_cons (pv 0) pa_nil)) pe_int (nomark _)) (pw_or1 (pt_not (pt_val (pe_callB (isi_K (K := K) rfl) rfl T.m_isinstance bt_isinstance (pa_cons (pe_ix (ix_K (K := K) rfl) (pv 0) pe_int (fun _ _ => rfl)) (pa_cons (pe_bltn (v := .ty "list") rfl T.m_list bt_list rfl) pa_nil))))))))) (pss_one (ps_ret pe_bl)) pss_nil)
      (pss_cons (ps_if (pt_cmpR (ne_K (K := K) rfl hr.units) (pe_callB (len_K (K := K) rfl) rfl T.m_len bt_len (pa_cons (pe_ix (ix_K (K := K) rfl) (pv 0) pe_int (fun _ _ => rfl)) pa_nil)) (pv 1) (nomark _)) (pss_one (ps_ret pe_bl)) pss_nil)
      (pss_one (ps_ret (pe_callB (all_K (K := K) rfl rfl) rfl T.m_all bt_all (pa_cons (pe_lc (own := [("number", 2)]) rfl sc_are_shares.nd (seq_K (K := K) rfl (pe_op (add_K (K := K) rfl) (pe_lst (pa_cons (pe_ix (ix_K (K := K) rfl) (pv 0) pe_int (fun _ _ => rfl)) pa_nil)) (pe_ix (ix_K (K := K) rfl) (pv 0) pe_int (fun _ _ => rfl)))) (blkOk_by (by kernel_rfl)) (fun _ _ _ _ _ => (pg_name (i := 2) sc_are_shares.nd rfl (Or.inl rfl))) (fun _ _ _ _ _ => pts_nil) (fun _ _ _ _ _ => (pe_and (pe_cal k_is_whole (hr.mono (by decide)) rfl (pa_cons (pv 2) pa_nil)) (pe_one (pe_cmpR op_ge (pv 2) pe_int (nomark _)))))) pa_nil)))))), ?_⟩)
  rintro ⟨d, m⟩ ⟨q, hd⟩
  have hd : Ok 4000 q d := hd
  rcases tup_or d with ⟨xs, rfl⟩ | hU
  rotate_left
  · refine rq_if (et_orD (et_notD (etB (ev_isi hd.ty (kit_tuple hd.ty) (ev_var rfl)))) (c := true) fun z => by rw [hU] at z; cases z) (fun _ => r_retD ev_bl ⟨false, rfl, fun z => nomatch z⟩) (fun z => by rw [hU] at z; cases z)
  obtain ⟨hz, q', rfl, hx⟩ := hd.tup
  by_cases h2 : xs.length = 2
  rotate_left
  · refine rq_if (et_orD (et_notD (etB (ev_isi hd.ty (kit_tuple hd.ty) (ev_var rfl)))) fun _ => et_orD (etD (ev_neI (ev_lenT (ev_var rfl)) ev_int)) (c := true) fun z => ?_) (fun _ => r_retD ev_bl ⟨false, rfl, fun z => nomatch z⟩) (fun z => ?_)
    · rw [decide_eq_false (by omega)] at z; cases z
    · rw [decide_eq_false (by omega)] at z; cases z
  obtain ⟨x, y, rfl⟩ : ∃ x y, xs = [x, y] := by
    match xs, h2 with
    | [x, y], _ => exact ⟨x, y, rfl⟩
  have ox : Ok 4000 q' x := hx x List.mem_cons_self
  have oy : Ok 4000 q' y := hx y (List.mem_cons_of_mem _ List.mem_cons_self)
  refine rq_if (et_orD (et_notD (etB (ev_isi hd.ty (kit_tuple hd.ty) (ev_var rfl)))) fun _ => et_orD (etD (ev_neI (ev_lenT (ev_var rfl)) ev_int)) fun _ => et_notD (etB (ev_isi oy.ty (kit_list oy.ty) (ev_ixT (d := y) rfl (ev_var rfl) ev_int)))) (fun _ => r_retD ev_bl ⟨false, rfl, fun z => nomatch z⟩) (fun z => r_next ?_)
  have yl : isL y = true := by
    have z : false = (!true || (!true || !isL y)) := z
    cases c : isL y with
    | true => rfl
    | false => rw [c] at z; cases z
  rcases lst_or y with ⟨ys, rfl⟩ | hL
  rotate_left
  · rw [hL] at yl; cases yl
  obtain ⟨hz2, q2, rfl, hy⟩ := oy.lst
  refine rq_if (etD (ev_neI (ev_len (xs := ys) (ev_ixT rfl (ev_var rfl) ev_int)) (ev_var rfl))) (fun _ => r_retD ev_bl ⟨false, rfl, fun z => nomatch z⟩) (fun z => r_next ?_)
  have lm : ys.length = m := by
    have z : false = !decide ((ys.length : Int) = m) := z
    have z2 : decide ((ys.length : Int) = m) = true := by
      cases c : decide ((ys.length : Int) = m) with
      | true => rfl
      | false => rw [c] at z; cases z
    have := of_decide_eq_true z2
    omega
  have all_ok : ∀ d ∈ x :: ys, ∃ n, Ok 4000 n d := fun d hd => by
    rcases List.mem_cons.mp hd with rfl | hd
    · exact ⟨_, ox⟩
    · exact ⟨_, hy d hd⟩
  refine r_ret ((ev_allP (Pd := fun d => ∃ i, d = .int i ∧ 0 ≤ i) (ei_lst (ev_is (ev_cat (xs := [x]) (ys := ys) (by simp; omega) (ev_lstD (ea_consD (ev_ixT (d := x) rfl (ev_var rfl) ev_int) ea_nil) (by show 1 ≤ 100000; decide)).toD (ev_ixT rfl (ev_var rfl) ev_int)).toD rfl)) (ds := x :: ys) (by simp; omega) (fun _ h => h) fun d hd => ?_).mono fun e ⟨b, e1, k⟩ => ⟨b, e1, fun hb => ?_⟩)
  · obtain ⟨n, od⟩ := all_ok d hd
    refine ⟨_, tg_name, ?_⟩
    cases hi : isI d with
    | false =>
      exact (ev_andF (ev_callD d (ea_consD (ev_var rfl) ea_nil) od.ty) hi).mono fun e z => ⟨false, z, fun z => nomatch z⟩
    | true =>
      obtain ⟨i, rfl⟩ : ∃ i, d = .int i := by
        cases d with
        | int i => exact ⟨i, rfl⟩
        | _ => cases hi
      exact (ev_andD (ev_callD (D.int i) (ea_consD (ev_var rfl) ea_nil) od.ty) fun _ => ev_ge (ev_var rfl) ev_int).mono fun e z => ⟨_, z, fun hb => ⟨i, rfl, of_decide_eq_true (by rw [Bool.and_eq_true] at hb; exact hb.2)⟩⟩
  · have k := k hb
    obtain ⟨o, rfl, ho⟩ := k x List.mem_cons_self
    obtain ⟨ns, rfl, hn⟩ := ints_of (ys := ys) (p := fun i => 0 ≤ i ∧ Bd 4000 i) (fun d hd => by
      obtain ⟨i, rfl, hi⟩ := k d (List.mem_cons_of_mem _ hd)
      exact ⟨i, rfl, hi, Ok.int (hy _ hd)⟩)
    exact ⟨o, ns, rfl, by rw [List.length_map] at lm; exact lm, ho, fun x hx => (hn x hx).1, fun x hx => (hn x hx).2, ox.int⟩

theorem ok_shows (T : Txt K mg) (F : FunD K "shows" "shows" (defArgs sshows) (defBody sshows) (defScope sshows) [] [] f fd) (k_added : Cal P w K mg base "added" 1 ["rows", "numbers", "many"] (sp_added K)) (k_are_shares : Cal P w K mg base "are_shares" 2 ["thing", "many"] (sp_are_shares K)) : FnOk P w K mg base CX0 3 f fd ["rows", "target", "shares"] (sp_shows K) := by
  refine fn_ok F sc_shows (fun _ => rfl) (fun cdv A' outer s H E hr => ⟨_, (pss_cons (ps_if (pt_not (pt_val (pe_cal k_are_shares (hr.mono (by decide)) rfl (pa_cons (pv 2) (pa_cons (pe_callB (len_K (K := K) rfl) rfl T.m_len bt_len (pa_cons (pv 0) pa_nil)) pa_nil))))) (pss_one (ps_ret pe_bl)) pss_nil)
      (pss_cons (ps_asg (pv 2) (tup_K (K := K) (n := 2) rfl rfl (pgs_cons (pg_name (i := 3) sc_shows.nd rfl (Or.inr rfl)) (pgs_cons (pg_name (i := 4) sc_shows.nd rfl (Or.inl rfl)) pgs_nil))))
      (pss_cons (ps_set (i := 5) sc_shows.nd rfl (Or.inl rfl) (pe_cal k_added (hr.mono (by decide)) rfl (pa_cons (pv 0) (pa_cons (pv 4) (pa_cons (pe_op op_sub (pe_callB (len_K (K := K) rfl) rfl T.m_len bt_len (pa_cons (pv 1) pa_nil)) pe_int) pa_nil)))))
      (pss_cons (ps_if (pt_cmpR (ne_K (K := K) rfl hr.units) (pe_slice (sl_K (K := K) rfl) (pv 5) po_none (po_some (pe_un un_neg pe_int))) (pe_callTy (tuple_K (K := K) rfl) rfl T.m_tuple bt_tuple (pa_cons (pe_lc (own := [("share", 6)]) rfl sc_shows.nd (seq_K (K := K) rfl (pe_slice (sl_K (K := K) rfl) (pv 1) po_none (po_some (pe_un un_neg pe_int)))) (blkOk_by (by kernel_rfl)) (fun _ _ _ _ _ => (pg_name (i := 6) sc_shows.nd rfl (Or.inl rfl))) (fun _ _ _ _ _ => pts_nil) (fun _ _ _ _ _ => (pe_op (mul_K (K := K) rfl) (pv 3) (pv 6)))) pa_nil)) (nomark _)) (pss_one (ps_ret pe_bl)) pss_nil)
      (pss_cons (ps_if (pt_cmpR (eq_K (K := K) rfl hr.units) (pv 3) pe_int (nomark _)) (pss_one (ps_ret (pe_cmpR op_lt (pe_ix (ix_K (K := K) rfl) (pv 5) (pe_un un_neg pe_int) (fun _ _ => rfl)) pe_int (nomark _)))) pss_nil)
      (pss_one (ps_ret (pe_cmpR op_le (pe_ix (ix_K (K := K) rfl) (pv 5) (pe_un un_neg pe_int) (fun _ _ => rfl)) (pe_op (mul_K (K := K) rfl) (pv 3) (pe_ix (ix_K (K := K) rfl) (pv 1) (pe_un un_neg pe_int) (fun _ _ => rfl))) (nomark _))))))))), ?_⟩)
  rintro ⟨rs, t, d⟩ ⟨h1, ⟨m, hm, h2⟩, h3, h4, h5, q, hd⟩
  have h1 : rs.length ≤ 1000 := h1
  have h2 : t.length = m + 1 := h2
  have tn : t ≠ [] := ne_nil_len h2
  refine rq_if (Rb := fun b => b = false → ∃ often numbers, d = .tup [.int often, dl numbers] ∧ numbers.length = rs.length ∧ 0 ≤ often ∧ (∀ x ∈ numbers, 0 ≤ x) ∧ (∀ x ∈ numbers, Bd 4000 x) ∧ Bd 4000 often) (et_not (et_B ((ev_callD (d, rs.length) (ea_consD (ev_var rfl) (ea_consD (ev_is (ev_len (ev_var rfl)) (by rw [List.length_map])) ea_nil)) ⟨q, hd⟩).mono fun e ⟨b, e1, k⟩ => ⟨b, e1, fun hb => k (by cases b <;> first | rfl | cases hb)⟩))) (fun _ => r_retD ev_bl ⟨false, rfl, fun z => nomatch z⟩) (fun z => r_next ?_)
  obtain ⟨o, ns, rfl, l1, ho, hn, hb, hob⟩ := z rfl
  refine rq_asg (ev_var rfl) (R := fun d => d = .tup [.int o, dl ns]) fun d e => ?_
  subst e
  refine ⟨_, _, tg_tup rfl (tgs_cons tg_name (tgs_cons tg_name tgs_nil)), ?_⟩
  refine rq_setD (d := dt (lin ns rs (m + 1))) (ev_callD (rs, ns, m) (ea_consD (ev_var rfl) (ea_consD (ev_var rfl) (ea_consD (ev_is (ev_sub (ev_lenT (ev_var rfl)) ev_int) (by rw [List.length_map, h2]; show D.int _ = D.int (m : Int); congr 1; omega)) ea_nil))) ⟨h1, by show ns.length ≤ 1000; have l1 : ns.length = rs.length := l1; omega, hm, fun r hr => (h3 r hr).trans h2, hb, h4⟩) ?_
  have fl : (lin ns rs (m + 1)).length = m + 1 := lin_len fun r hr => (h3 r hr).trans h2
  have fne : lin ns rs (m + 1) ≠ [] := ne_nil_len fl
  refine rq_if (etD (ev_neT (ev_lastT (r := lin ns rs (m + 1)) (ev_var rfl) (ev_neg ev_int)) (ms := smul o t.dropLast) (ev_tuple (ev_is (ev_lcD (fun d => match d with | .int i => .int (o * i) | d => d) (ei_tup (ev_lastT (r := t) (ev_var rfl) (ev_neg ev_int))) (by rw [List.length_map, List.length_dropLast]; omega) (fun _ h => h) fun d hd => ?_).toD ?_)))) (fun _ => r_retD ev_bl ⟨false, rfl, fun z => nomatch z⟩) (fun z => r_next ?_)
  · obtain ⟨i, hi, rfl⟩ := List.mem_map.mp hd
    exact ⟨_, tg_name, ev_mul hob (h5 i (mem_dl hi)) (by decide) (by decide) (by decide) (ev_var rfl) (ev_var rfl)⟩
  · show D.lst _ = D.lst _
    unfold smul
    rw [List.map_map, List.map_map] <;> rfl
  have nums : (lin ns rs (m + 1)).dropLast = smul o t.dropLast := by
    have z : false = !decide ((lin ns rs (m + 1)).dropLast = smul o t.dropLast) := z
    by_cases c : (lin ns rs (m + 1)).dropLast = smul o t.dropLast
    · exact c
    · rw [decide_eq_false c] at z; cases z
  refine rq_if (etD (ev_eqI (ev_var rfl) ev_int)) (fun z => ?_) (fun z => r_next ?_)
  · have o0 : o = 0 := of_decide_eq_true z.symm
    refine r_retD (ev_lt (ev_ixT (at_lastI fne) (ev_var rfl) (ev_neg ev_int)) ev_int) ⟨_, rfl, fun hb => ⟨o, ns, l1, ho, hn, by rw [h2]; exact nums, fun _ => by rw [h2]; exact of_decide_eq_true hb, fun c => absurd o0 c⟩⟩
  · have o0 : o ≠ 0 := of_decide_eq_false z.symm
    refine r_retD (ev_le (ev_ixT (at_lastI fne) (ev_var rfl) (ev_neg ev_int)) (ev_mul hob (h5 _ (last_mem tn)) (by decide) (by decide) (by decide) (ev_var rfl) (ev_ixT (at_lastI tn) (ev_var rfl) (ev_neg ev_int)))) ⟨_, rfl, fun hb => ⟨o, ns, l1, ho, hn, by rw [h2]; exact nums, fun c => absurd c o0, fun _ => by rw [h2]; exact of_decide_eq_true hb⟩⟩

theorem ok_all_show (T : Txt K mg) (F : FunD K "all_show" "all_show" (defArgs sall_show) (defBody sall_show) (defScope sall_show) [] [] f fd) (k_shows : Cal P w K mg base "shows" 3 ["rows", "target", "shares"] (sp_shows K)) : FnOk P w K mg base CX0 4 f fd ["rows", "targets", "some"] (sp_all_show K) := by
  refine fn_ok F sc_all_show (fun _ => rfl) (fun cdv A' outer s H E hr => ⟨_, (pss_cons (ps_if (PW.pt (pw_or (pt_not (pt_val (pe_callB (isi_K (K := K) rfl) rfl T.m_isinstance bt_isinstance (pa_cons (pv 2) (pa_cons (pe_bltn (v := .ty "list") rfl T.m_list bt_list rfl) pa_nil))))) (pw_or1 (pt_cmpR (ne_K (K := K) rfl hr.units) (pe_callB (len_K (K := K) rfl) rfl T.m_len bt_len (pa_cons (pv 2) pa_nil)) (pe_callB (len_K (K := K) rfl) rfl T.m_len bt_len (pa_cons (pv 1) pa_nil)) (nomark _))))) (pss_one (ps_ret pe_bl)) pss_nil)
      (pss_one (ps_ret (pe_callB (all_K (K := K) rfl rfl) rfl T.m_all bt_all (pa_cons (pe_lc (own := [("target", 3), ("shares", 4)]) rfl sc_all_show.nd (zip_K (K := K) rfl rfl T.m_zip (pa_cons (pv 1) (pa_cons (pv 2) pa_nil))) (blkOk_by (by kernel_rfl)) (fun _ _ _ _ _ => (tup_K (K := K) (n := 2) rfl rfl (pgs_cons (pg_name (i := 3) sc_all_show.nd rfl (Or.inl rfl)) (pgs_cons (pg_name (i := 4) sc_all_show.nd rfl (Or.inl rfl)) pgs_nil)))) (fun _ _ _ _ _ => pts_nil) (fun _ _ _ _ _ => (pe_cal k_shows (hr.mono (by decide)) rfl (pa_cons (pv 0) (pa_cons (pv 3) (pa_cons (pv 4) pa_nil)))))) pa_nil))))), ?_⟩)
  rintro ⟨rs, ts, d⟩ ⟨h1, h2, ⟨m, hm, h3, h4⟩, h5, h6, q, hd⟩
  have h2 : ts.length ≤ 1000 := h2
  have hd : Ok 4000 q d := hd
  rcases lst_or d with ⟨xs, rfl⟩ | hL
  rotate_left
  · refine rq_if (et_orD (et_notD (etB (ev_isi hd.ty (kit_list hd.ty) (ev_var rfl)))) (c := true) fun z => by rw [hL] at z; cases z) (fun _ => r_retD ev_bl ⟨false, rfl, fun z => nomatch z⟩) (fun z => by rw [hL] at z; cases z)
  obtain ⟨hz, q', rfl, hx⟩ := hd.lst
  refine rq_if (et_orD (et_notD (etB (ev_isi hd.ty (kit_list hd.ty) (ev_var rfl)))) fun _ => etD (ev_neI (ev_len (ev_var rfl)) (ev_len (ev_var rfl)))) (fun _ => r_retD ev_bl ⟨false, rfl, fun z => nomatch z⟩) (fun z => r_next ?_)
  have lm : xs.length = ts.length := by
    have z : false = (!true || !decide ((xs.length : Int) = ((ts.map dt).length : Int))) := z
    by_cases c : (xs.length : Int) = ((ts.map dt).length : Int)
    · rw [List.length_map] at c; omega
    · rw [decide_eq_false c] at z; cases z
  refine r_ret ((ev_allP (Pd := fun d => ∀ t s, d = .tup [dt t, s] → Li.Shows rs t) (ds := zipD (ts.map dt) xs) (ei_zip (.inl rfl) (.inl rfl) (ev_var rfl) (ev_var rfl)) (by rw [zipD_len, List.length_map]; omega) (fun _ h => h) fun d hd => ?_).mono fun e ⟨b, e1, k⟩ => ⟨b, e1, fun hb t ht => ?_⟩)
  · obtain ⟨k, hk⟩ := List.mem_iff_getElem?.mp hd
    obtain ⟨x, y, hx', hy, rfl⟩ := zipD_get hk
    obtain ⟨t, ht, rfl⟩ := map_get hx'
    refine ⟨_, tg_tup rfl (tgs_cons tg_name (tgs_cons tg_name tgs_nil)), ?_⟩
    have tl := h4 t (mem_at ht)
    refine (ev_callD (rs, t, y) (ea_consD (ev_var rfl) (ea_consD (ev_var rfl) (ea_consD (ev_var rfl) ea_nil))) ⟨h1, ⟨m, hm, tl⟩, fun r hr => (h3 r hr).trans tl.symm, h5, h6 t (mem_at ht), q', hx y (mem_at hy)⟩).mono fun e ⟨b, e1, k⟩ => ⟨b, e1, fun hb t' s' ee => ?_⟩
    have : t' = t := by
      have e2 : dt t = dt t' := by injection ee with ee; injection ee
      have e3 : t.map D.int = t'.map D.int := by injection e2
      exact ints_inj e3.symm
    rw [this]
    exact k hb
  · obtain ⟨k', hk⟩ := List.mem_iff_getElem?.mp ht
    obtain ⟨s, hs, _⟩ := get_ex (r := xs) (k := k') (by rw [lm]; exact (List.getElem?_eq_some_iff.mp hk).1)
    refine k hb (.tup [dt t, s]) (List.mem_of_getElem? (i := k') ?_) t s rfl
    unfold zipD
    rw [List.getElem?_zipWith, List.getElem?_map, hk, hs] <;> rfl

theorem ok_fall (T : Txt K mg) (F : FunD K "fall" "fall" (defArgs sfall) (defBody sfall) (defScope sfall) [] [] f fd) (k_reach : Cal P w K mg base "reach" 2 ["thing", "mode", "row"] (sp_reach K)) : FnOk P w K mg base CX0 3 f fd ["thing", "mode", "measure", "step"] (sp_fall K) := by
  refine fn_ok F sc_fall (fun _ => rfl) (fun cdv A' outer s H E hr => ⟨_, (pss_cons (ps_set (i := 4) sc_fall.nd rfl (Or.inl rfl) (pe_callTy (list_K (K := K) rfl) rfl T.m_list bt_list (pa_cons (pe_cal k_reach (hr.mono (by decide)) rfl (pa_cons (pv 0) (pa_cons (pv 1) (pa_cons (pe_op (add_K (K := K) rfl) (pe_slice (sl_K (K := K) rfl) (pv 2) po_none (po_some (pe_un un_neg pe_int))) (pe_tup (pa_cons pe_int pa_nil))) pa_nil)))) pa_nil)))
      (pss_cons (ps_for PassesOwn.never rfl (pi_range1 rfl T.m_range (pa_cons (fld_K (K := K) rfl (pv 0) rfl) pa_nil)) (pg_name (i := 5) sc_fall.nd rfl (Or.inl rfl)) (pss_one (ps_asg (pe_op op_sub (pe_ix (ix_K (K := K) rfl) (pv 4) (pv 5) (fun _ _ => rfl)) (pe_op (mul_K (K := K) rfl) (fld_K (K := K) rfl (pv 1) rfl) (pe_ix (ix_K (K := K) rfl) (pv 2) (pv 5) (fun _ _ => rfl)))) (pg_sub (pv 4) (pv 5) set_list))))
      (pss_cons (ps_asg (pe_op op_sub (pe_ix (ix_K (K := K) rfl) (pv 4) (pe_un un_neg pe_int) (fun _ _ => rfl)) (pe_op (mul_K (K := K) rfl) (fld_K (K := K) rfl (pv 1) rfl) (pv 3))) (pg_sub (pv 4) (pe_un un_neg pe_int) set_list))
      (pss_one (ps_ret (pe_callTy (tuple_K (K := K) rfl) rfl T.m_tuple bt_tuple (pa_cons (pv 4) pa_nil))))))), ?_⟩)
  rintro ⟨t, m, v, s⟩ ⟨h, hm, h3, h4, h5⟩
  have hm : WfMd t.n t.ps.length m := hm
  have hp : t.ps.length ≤ 6 := h.pl
  have hn : t.n ≤ 3 := h.n3
  have h3 : v.length = t.n + 1 := h3
  have h5 : Bd 4000 s := h5
  have lv : (v.dropLast ++ [0]).length = t.n + 1 := by rw [List.length_append, List.length_dropLast, h3] <;> rfl
  have bv : ∀ x ∈ v.dropLast ++ [0], Bd 4000 x := fun x hx => by
    rcases List.mem_append.mp hx with hx | hx
    · exact h4 x (mem_dl hx)
    · rw [List.mem_singleton.mp hx]; exact Nat.two_pow_pos 4000
  have lR : (Li.reach t.n t.ps.length m.nexts m.push m.add m.div (v.dropLast ++ [0])).length = t.n + t.ps.length + 1 := by
    unfold Li.reach
    rw [List.length_append, List.length_append, lin_len hm.nw, lin_len hm.pw] <;> rfl
  refine rq_ownD (xs := (Li.reach t.n t.ps.length m.nexts m.push m.add m.div (v.dropLast ++ [0])).map D.int) (ev_listT (ev_callD (t, m, v.dropLast ++ [0]) (ea_consD (ev_var rfl) (ea_consD (ev_var rfl) (ea_consD (ev_catI (by simp; omega) (ev_lastT (ev_var rfl) (ev_neg ev_int)) (ev_one ev_int)) ea_nil))) ⟨h, hm, lv, bv⟩)) fun a => ?_
  obtain ⟨R, hR⟩ : ∃ R, R = Li.reach t.n t.ps.length m.nexts m.push m.add m.div (v.dropLast ++ [0]) := ⟨_, rfl⟩
  rw [← hR] at lR ⊢
  refine rq_forD (ei_range (n := t.n) (by omega) (by omega) (ev_fld T.cl_Thing T.n_Thing_many rfl (ev_var rfl))) (fun k ρ => ∃ x5 : Option Sl, ρ = [some (.p (thO K t)), some (.p (mdO K t.n m)), some (.p (dt v)), some (.p (.int s)), some (.o a ((partF R v m.div k).map D.int)), x5]) ⟨none, rfl⟩ ?_ ?_
  · rintro k d ρ1 hd ⟨x5, rfl⟩
    obtain ⟨hk, rfl⟩ := rangeD_get hd
    have hk : k < t.n := by omega
    obtain ⟨x, hx, mx⟩ := get_ex (r := R) (k := k) (by omega)
    obtain ⟨y, hy, my⟩ := get_ex (r := v) (k := k) (by omega)
    have pl := partF_len (r := R) (v := v) (c := m.div) (k := k) (by omega) (by omega)
    have px : (partF R v m.div k)[k]? = some x := by rw [partF_get (by omega) (by omega), hx]
    refine ⟨_, _, tg_name, r_setI (j := k) rfl ?_ (ev_sub (ev_ixO rfl (at_ints px) (ev_var rfl)) (ev_mul (hm.bd.mono (show 1000 ≤ 4000 by decide)) (h4 y my) (by decide) (by decide) (by decide) (ev_fld T.cl_Mode T.n_Mode_divisor rfl (ev_var rfl)) (ev_ixT (at_ints hy) (ev_var rfl) (ev_var rfl)))) (ev_var rfl) fun d e => ⟨some (.p (.int k)), ?_⟩⟩
    · rw [List.length_map, pl]
      unfold ixN
      rw [if_pos (by omega)]
      rw [if_pos (by omega), Int.toNat_natCast]
    · subst e
      rw [← partF_step hx hy, List.map_set] <;> rfl
  · rintro ρ1 ⟨x5, rfl⟩
    rw [rangeD_len, Int.toNat_natCast]
    have pl := partF_len (r := R) (v := v) (c := m.div) (k := t.n) (by omega) (by omega)
    have gl := partF_last (r := R) (v := v) (c := m.div) (n := t.n) (by omega) (by omega)
    refine rq_setI (j := R.length - 1) rfl ?_ (ev_sub (ev_ixO (d := .int (R.getLastD 0)) rfl (at_last (by rw [List.getLast?_map, gl] <;> rfl)) (ev_neg ev_int)) (ev_mul (hm.bd.mono (show 1000 ≤ 4000 by decide)) h5 (by decide) (by decide) (by decide) (ev_fld T.cl_Mode T.n_Mode_divisor rfl (ev_var rfl)) (ev_var rfl))) (ev_neg ev_int) fun d e => ?_
    · rw [List.length_map, pl]
      unfold ixN
      rw [if_neg (by omega), if_pos (by omega)]
      congr 1
      omega
    · subst e
      refine r_freeze (i := 4) rfl (r_retD (ev_tuple (ev_var rfl)) ?_)
      have e2 : ((partF R v m.div t.n).map D.int).set (R.length - 1) (.int (R.getLastD 0 - m.div * s)) = (List.zipWith (fun a b => a - m.div * b) (R.take t.n) (v.take t.n) ++ ((R.drop t.n).dropLast ++ [R.getLastD 0 - m.div * s])).map D.int := by
        rw [← partF_fin (by omega) (by omega), List.map_set]
      rw [e2, hR] <;> rfl

end
end Tx
end
section
set_option Elab.async false
set_option linter.all false
set_option maxRecDepth 100000
set_option maxHeartbeats 4000000
set_option autoImplicit false
set_option exponentiation.threshold 100000
/-! Wc: sizes and widths of the rows; promises of the papers' defs. -/
namespace Tx
open PySem L2 Kr Kt Li
theorem Bd.add {a : Nat} {x y : Int} (h1 : Bd a x) (h2 : Bd a y) : Bd (a + 1) (x + y) := by
  unfold Bd at *
  rw [Nat.pow_succ]
  have := Int.natAbs_add_le x y
  omega
theorem Bd.neg {a : Nat} {x : Int} (h : Bd a x) : Bd a (-x) := by
  unfold Bd at *
  rw [Int.natAbs_neg]; exact h
theorem Bd.sub {a : Nat} {x y : Int} (h1 : Bd a x) (h2 : Bd a y) : Bd (a + 1) (x - y) := by
  rw [Int.sub_eq_add_neg]
  exact h1.add h2.neg
theorem Bd.mul {a b : Nat} {x y : Int} (h1 : Bd a x) (h2 : Bd b y) : Bd (a + b) (x * y) := by
  unfold Bd at *
  rw [Int.natAbs_mul, Nat.pow_add]
  have p : 0 < 2 ^ b := Nat.two_pow_pos b
  calc x.natAbs * y.natAbs ≤ x.natAbs * 2 ^ b := Nat.mul_le_mul_left _ (Nat.le_of_lt h2)
    _ < 2 ^ a * 2 ^ b := Nat.mul_lt_mul_of_pos_right h1 p
theorem Bd.zero {a : Nat} : Bd a 0 := Nat.two_pow_pos a
theorem Bd.one {a : Nat} : Bd (a + 1) 1 := by
  unfold Bd
  have : 0 < 2 ^ a := Nat.two_pow_pos a
  rw [Nat.pow_succ]
  show 1 < _
  omega
theorem mem_zipWith {α β γ : Type} {f : α → β → γ} {a : List α} {b : List β} {z : γ} (h : z ∈ List.zipWith f a b) : ∃ x y, x ∈ a ∧ y ∈ b ∧ z = f x y := by
  obtain ⟨i, hi⟩ := List.mem_iff_getElem?.mp h
  rw [List.getElem?_zipWith] at hi
  cases h1 : a[i]? with
  | none => rw [h1] at hi; cases hi
  | some x =>
    cases h2 : b[i]? with
    | none => rw [h1, h2] at hi; cases hi
    | some y => rw [h1, h2] at hi; cases hi; exact ⟨x, y, List.mem_of_getElem? h1, List.mem_of_getElem? h2, rfl⟩
theorem vadd_b {c : Nat} {a b : List Int} (h1 : ∀ x ∈ a, Bd c x) (h2 : ∀ x ∈ b, Bd c x) : ∀ x ∈ vadd a b, Bd (c + 1) x := fun z hz => by
  obtain ⟨x, y, hx, hy, rfl⟩ := mem_zipWith hz
  exact (h1 x hx).add (h2 y hy)
theorem smul_b {c d : Nat} {k : Int} {a : List Int} (h1 : Bd c k) (h2 : ∀ x ∈ a, Bd d x) : ∀ x ∈ smul k a, Bd (c + d) x := fun z hz => by
  obtain ⟨x, hx, rfl⟩ := List.mem_map.mp hz
  exact h1.mul (h2 x hx)
theorem fold_b {c d : Nat} : ∀ (ps : List (Int × List Int)) (a : List Int) (k : Nat), (∀ x ∈ a, Bd (c + d + k) x) → (∀ p ∈ ps, Bd c p.1 ∧ ∀ x ∈ p.2, Bd d x) → ∀ x ∈ ps.foldl (fun a p => vadd a (smul p.1 p.2)) a, Bd (c + d + k + ps.length) x
  | [], _, _, h, _ => h
  | p :: ps, a, k, h, hp => by
    have hp0 := hp p List.mem_cons_self
    have hs : ∀ x ∈ smul p.1 p.2, Bd (c + d + k) x := fun x hx => (smul_b hp0.1 hp0.2 x hx).mono (Nat.le_add_right _ _)
    have := fold_b ps (vadd a (smul p.1 p.2)) (k + 1) (vadd_b h hs) fun q hq => hp q (List.mem_cons_of_mem _ hq)
    intro x hx
    exact (this x hx).mono (by rw [List.length_cons]; omega)
theorem lin_b {c d : Nat} {ns : List Int} {rs : List (List Int)} {n : Nat} (h1 : ∀ x ∈ ns, Bd c x) (h2 : ∀ r ∈ rs, ∀ x ∈ r, Bd d x) : ∀ x ∈ lin ns rs n, Bd (c + d + ns.length) x := fun x hx => by
  have := fold_b (c := c) (d := d) (ns.zip rs) (zeros n) 0 (fun x hx => by rw [(List.mem_replicate.mp hx).2]; exact Bd.zero) (fun p hp => ⟨h1 p.1 (List.of_mem_zip hp).1, h2 p.2 (List.of_mem_zip hp).2⟩) x hx
  exact this.mono (by rw [List.length_zip]; omega)
theorem sum_b {c : Nat} : ∀ (l : List Int), (∀ x ∈ l, Bd c x) → Bd (c + l.length) l.sum
  | [], _ => Bd.zero
  | x :: l, h => by
    rw [List.sum_cons, List.length_cons]
    have h1 := sum_b l fun y hy => h y (List.mem_cons_of_mem _ hy)
    exact Bd.add (a := c + l.length) ((h x List.mem_cons_self).mono (by omega)) h1
theorem dot_b {c d : Nat} {a b : List Int} (h1 : ∀ x ∈ a, Bd c x) (h2 : ∀ x ∈ b, Bd d x) : Bd (c + d + a.length) (dotI a b) := by
  have := sum_b (c := c + d) (List.zipWith (· * ·) a b) fun z hz => by
    obtain ⟨x, y, hx, hy, rfl⟩ := mem_zipWith hz
    exact (h1 x hx).mul (h2 y hy)
  exact this.mono (by rw [List.length_zipWith]; omega)
/-! rows that stand -/
theorem stand_len (n : Nat) (ps : List (Int × Int)) (rs : List (List Int)) : (stand n ps rs).length = rs.length + 2 * ps.length := by
  have e : (pRows n ps).length = 2 * ps.length := pRowsK_len n ps.length ps
  unfold stand
  rw [List.length_append, List.length_map, e]
theorem mem_pRows {n : Nat} {ps : List (Int × Int)} {r : List Int} (h : r ∈ pRows n ps) : ∃ i b, ps[i]? = some b ∧ (r = pRow n ps.length i 1 b.2 ∨ r = pRow n ps.length i (-1) (0 - b.1)) := by
  unfold pRows at h
  obtain ⟨i, hi, hr⟩ := List.mem_flatMap.mp h
  have hi := List.mem_range.mp hi
  obtain ⟨b, hb, _⟩ := get_ex hi
  have e : ps.getD i (0, 0) = b := by rw [List.getD_eq_getElem?_getD, hb] <;> rfl
  rw [e] at hr
  refine ⟨i, b, hb, ?_⟩
  rcases List.mem_cons.mp hr with h | h
  · exact .inl h
  · exact .inr (List.mem_singleton.mp h)
theorem pRow_len {n p i : Nat} {s b : Int} (h : i < p) : (pRow n p i s b).length = n + p + 1 := by
  unfold pRow; simp; omega
theorem stand_w {n : Nat} {ps : List (Int × Int)} {rs : List (List Int)} (h : ∀ r ∈ rs, r.length = n + 1) : ∀ r ∈ stand n ps rs, r.length = n + ps.length + 1 := fun r hr => by
  rcases List.mem_append.mp hr with hr | hr
  · obtain ⟨q, hq, rfl⟩ := List.mem_map.mp hr
    have := h q hq
    unfold widen; simp; omega
  · obtain ⟨i, b, hb, rfl | rfl⟩ := mem_pRows hr
    · exact pRow_len (List.getElem?_eq_some_iff.mp hb).1
    · exact pRow_len (List.getElem?_eq_some_iff.mp hb).1
theorem widen_b {c p : Nat} {r : List Int} (h : ∀ x ∈ r, Bd c x) : ∀ x ∈ widen p r, Bd c x := fun x hx => by
  unfold widen at hx
  rcases List.mem_append.mp hx with hx | hx
  · rcases List.mem_append.mp hx with hx | hx
    · exact h x (mem_dl hx)
    · rw [(List.mem_replicate.mp hx).2]; exact Bd.zero
  · rw [List.mem_singleton.mp hx]
    by_cases hn : r = []
    · subst hn; exact Bd.zero
    · exact h _ (last_mem hn)
theorem pRow_b {c n p i : Nat} {s b : Int} (h1 : Bd c s) (h2 : Bd c b) : ∀ x ∈ pRow n p i s b, Bd c x := fun x hx => by
  unfold pRow at hx
  simp only [List.mem_append, List.mem_replicate, List.mem_singleton] at hx
  rcases hx with (((⟨_, rfl⟩ | ⟨_, rfl⟩) | rfl) | ⟨_, rfl⟩) | rfl
  · exact Bd.zero
  · exact Bd.zero
  · exact h1
  · exact Bd.zero
  · exact h2
theorem stand_b {n : Nat} {ps : List (Int × Int)} {rs : List (List Int)} (h : ∀ r ∈ rs, ∀ x ∈ r, Bd 1000 x) (hp : ∀ b ∈ ps, Bd 1000 b.1 ∧ Bd 1000 b.2) : ∀ r ∈ stand n ps rs, ∀ x ∈ r, Bd 4000 x := fun r hr => by
  rcases List.mem_append.mp hr with hr | hr
  · obtain ⟨q, hq, rfl⟩ := List.mem_map.mp hr
    exact widen_b fun x hx => (h q hq x hx).mono (by decide)
  · obtain ⟨i, b, hb, rfl | rfl⟩ := mem_pRows hr
    · exact pRow_b (Bd.one (a := 3999)) ((hp b (mem_at hb)).2.mono (by decide))
    · exact pRow_b (Bd.neg (Bd.one (a := 3999))) ((Bd.sub (a := 3999) Bd.zero ((hp b (mem_at hb)).1.mono (by decide))))
theorem reach_len {n p : Nat} {m : Md} (hm : WfMd n p m) (r : List Int) : (Li.reach n p m.nexts m.push m.add m.div r).length = n + p + 1 := by
  unfold Li.reach
  rw [List.length_append, List.length_append, lin_len hm.nw, lin_len hm.pw] <;> rfl
theorem reach_b {n p : Nat} {m : Md} (hm : WfMd n p m) {r : List Int} (hr : ∀ x ∈ r, Bd 1000 x) (hl : r.length ≤ 100) : ∀ x ∈ Li.reach n p m.nexts m.push m.add m.div r, Bd 3000 x := fun x hx => by
  unfold Li.reach at hx
  have l2 : r.dropLast.length ≤ 100 := by rw [List.length_dropLast]; omega
  rcases List.mem_append.mp hx with hx | hx
  · rcases List.mem_append.mp hx with hx | hx
    · exact (lin_b (fun x hx => hr x (mem_dl hx)) hm.bn x hx).mono (by omega)
    · exact (lin_b (fun x hx => hr x (mem_dl hx)) hm.bp x hx).mono (by omega)
  · rw [List.mem_singleton.mp hx]
    have l3 : (r.take n).length ≤ 100 := by rw [List.length_take]; omega
    have l4 : Bd 1000 (r.getLastD 0) := by
      by_cases hn : r = []
      · subst hn; exact Bd.zero
      · exact hr _ (last_mem hn)
    exact (Bd.sub (a := 2100) ((hm.bd.mul l4).mono (by decide)) ((dot_b (fun x hx => hr x (List.mem_of_mem_take hx)) hm.ba).mono (by omega))).mono (by decide)
theorem fall_len {n p : Nat} {m : Md} (hm : WfMd n p m) {v : List Int} (hv : v.length = n + 1) (s : Int) : (Li.fall n p m.nexts m.push m.add m.div v s).length = n + p + 1 := by
  unfold Li.fall
  have := reach_len hm (v.dropLast ++ [0])
  simp only []
  rw [List.length_append, List.length_zipWith, List.length_take, List.length_take, List.length_append, List.length_dropLast, List.length_drop, this, List.length_singleton]
  omega
theorem fall_b {n p : Nat} {m : Md} (hm : WfMd n p m) {v : List Int} {s : Int} (hl : v.length ≤ 10) (hv : ∀ x ∈ v, Bd 1000 x) (hs : Bd 1000 s) : ∀ x ∈ Li.fall n p m.nexts m.push m.add m.div v s, Bd 20000 x := fun x hx => by
  have rb := reach_b hm (r := v.dropLast ++ [0]) (fun x hx => by
    rcases List.mem_append.mp hx with hx | hx
    · exact hv x (mem_dl hx)
    · rw [List.mem_singleton.mp hx]; exact Bd.zero) (by rw [List.length_append, List.length_dropLast, List.length_singleton]; omega)
  unfold Li.fall at hx
  simp only [] at hx
  rcases List.mem_append.mp hx with hx | hx
  · obtain ⟨a, b, ha, hb, rfl⟩ := mem_zipWith hx
    exact (Bd.sub (a := 3000) (rb a (List.mem_of_mem_take ha)) ((hm.bd.mul (hv b (List.mem_of_mem_take hb))).mono (by decide))).mono (by decide)
  · rcases List.mem_append.mp hx with hx | hx
    · exact (rb x (List.mem_of_mem_drop (mem_dl hx))).mono (by decide)
    · rw [List.mem_singleton.mp hx]
      refine (Bd.sub (a := 3000) ?_ ((hm.bd.mul hs).mono (by decide))).mono (by decide)
      have := reach_len hm (v.dropLast ++ [0])
      exact rb _ (last_mem (ne_nil_len this))
/-! the paper, the claim -/
structure Fl where
  room : List (List Int)
  starts : D
  steps : D
  measure : List Int
  step : Int
  top : Int
  falls : D
  floors : D
  tops : D
def flO (K : PySem.W.Frag) (F : Fl) : D := .ins (cFalls K) nsFalls [Tx.room F.room, F.starts, F.steps, dt F.measure, .int F.step, .int F.top, F.falls, F.floors, F.tops]
structure WfFl (n : Nat) (F : Fl) : Prop where
  rl : F.room.length ≤ 50
  rw : ∀ r ∈ F.room, r.length = n + 1
  rb : ∀ r ∈ F.room, ∀ x ∈ r, Bd 1000 x
  ml : F.measure.length = n + 1
  mb : ∀ x ∈ F.measure, Bd 900 x
  sb : Bd 1000 F.step
  tb : Bd 900 F.top
  o1 : ∃ q, Ok 4000 q F.starts
  o2 : ∃ q, Ok 4000 q F.steps
  o3 : ∃ q, Ok 4000 q F.falls
  o4 : ∃ q, Ok 4000 q F.floors
  o5 : ∃ q, Ok 4000 q F.tops
structure Co where
  start : List (List Int)
  goal : List (List Int)
  turns : Int
def coO (K : PySem.W.Frag) (c : Co) : D := .ins (cComes K) nsComes [room c.start, room c.goal, .int c.turns]
structure WfCo (n : Nat) (c : Co) : Prop where
  sl : c.start.length ≤ 100
  sw : ∀ r ∈ c.start, r.length = n + 1
  sb : ∀ r ∈ c.start, ∀ x ∈ r, Bd 1000 x
  gl : c.goal.length ≤ 100
  gw : ∀ r ∈ c.goal, r.length = n + 1
  gb : ∀ r ∈ c.goal, ∀ x ∈ r, Bd 1000 x
  tb : Bd 1000 c.turns
/-- what falls_by shows -/
def ByS (F : Fl) (t : Th) (m : Md) (goal : List (List Int)) : Prop := ∀ g ∈ goal, Li.Shows (stand t.n t.ps (F.room ++ m.rows ++ [Li.neg g])) (Li.fall t.n t.ps.length m.nexts m.push m.add m.div F.measure F.step)
structure HighS (F : Fl) (c : Co) : Prop where
  top : Li.Shows c.start (F.measure.dropLast ++ [F.top - F.measure.getLastD 0])
  floor : ∀ g ∈ c.goal, Li.Shows (F.room ++ [Li.neg g]) (Li.neg F.measure.dropLast ++ [F.measure.getLastD 0])
structure ForS (F : Fl) (t : Th) (c : Co) : Prop where
  s1 : 1 ≤ F.step
  tt : F.top < c.turns * F.step
  starts : ∀ r ∈ F.room, Li.Shows c.start r
  steps : ∀ m ∈ t.ms, ∀ r ∈ F.room, Li.Shows (stand t.n t.ps (F.room ++ m.rows)) (Li.reach t.n t.ps.length m.nexts m.push m.add m.div r)
  high : HighS F c
  by_ : ∀ m ∈ t.ms, ByS F t m c.goal
section
variable (K : PySem.W.Frag)
abbrev sp_kept (n : Nat) : Sp := spF K (fun d : D => [d]) (fun d => 1 ≤ n ∧ ∃ B, Ok B (n - 1) d) (fun d r => r = d)
abbrev sp_Falls_init : Sp := spI K (cFalls K) nsFalls (fun F : Fl => [room F.room, F.starts, F.steps, dt F.measure, .int F.step, .int F.top, F.falls, F.floors, F.tops])
  (fun F => ∃ B, Ok B 20 (room F.room) ∧ Ok B 20 F.starts ∧ Ok B 20 F.steps ∧ Ok B 20 F.falls ∧ Ok B 20 F.floors ∧ Ok B 20 F.tops)
  (fun F fs => fs = [room F.room, F.starts, F.steps, dt F.measure, .int F.step, .int F.top, F.falls, F.floors, F.tops])
abbrev sp_Falls_falls_by : Sp := spF K (fun a : Fl × Th × Md × List (List Int) × D => [flO K a.1, thO K a.2.1, mdO K a.2.1.n a.2.2.1, room a.2.2.2.1, a.2.2.2.2])
  (fun a => WfFl a.2.1.n a.1 ∧ WfTh a.2.1 ∧ WfMd a.2.1.n a.2.1.ps.length a.2.2.1 ∧ a.2.2.2.1.length ≤ 100 ∧ (∀ r ∈ a.2.2.2.1, r.length = a.2.1.n + 1) ∧ (∀ r ∈ a.2.2.2.1, ∀ x ∈ r, Bd 900 x) ∧ ∃ q, Ok 4000 q a.2.2.2.2)
  (fun a r => ∃ b, r = .bl b ∧ (b = true → ByS a.1 a.2.1 a.2.2.1 a.2.2.2.1))
abbrev sp_Falls_is_high : Sp := spF K (fun a : Fl × Co × Nat => [flO K a.1, coO K a.2.1])
  (fun a => a.2.2 ≤ 3 ∧ WfFl a.2.2 a.1 ∧ WfCo a.2.2 a.2.1) (fun a r => ∃ b, r = .bl b ∧ (b = true → HighS a.1 a.2.1))
abbrev sp_Falls_is_for : Sp := spF K (fun a : Fl × Th × Co => [flO K a.1, thO K a.2.1, coO K a.2.2])
  (fun a => WfTh a.2.1 ∧ WfFl a.2.1.n a.1 ∧ WfCo a.2.1.n a.2.2 ∧ ∀ r ∈ a.2.2.goal, ∀ x ∈ r, Bd 900 x) (fun a r => ∃ b, r = .bl b ∧ (b = true → ForS a.1 a.2.1 a.2.2))
abbrev sp_lets_by : Sp := spF K (fun a : Fl × Th × Co => [thO K a.2.1, coO K a.2.2, flO K a.1])
  (fun a => WfTh a.2.1 ∧ WfFl a.2.1.n a.1 ∧ WfCo a.2.1.n a.2.2 ∧ ∀ r ∈ a.2.2.goal, ∀ x ∈ r, Bd 900 x) (fun a r => ∃ b, r = .bl b ∧ (b = true → ForS a.1 a.2.1 a.2.2))
end
theorem bl_not {b c : Bool} (h : b = !c) : c = !b := by cases b <;> cases c <;> first | rfl | cases h
theorem neg_b {c : Nat} {r : List Int} (h : ∀ x ∈ r, Bd c x) : ∀ x ∈ Li.neg r, Bd (c + 1) x := fun x hx => by
  obtain ⟨y, hy, rfl⟩ := List.mem_map.mp hx
  exact Bd.sub Bd.zero (h y hy)
theorem neg_len (r : List Int) : (Li.neg r).length = r.length := by unfold Li.neg; rw [List.length_map]
section
variable {K : PySem.W.Frag} {ρ : Rho} {ta tb te : TE}
/-- rows joined -/
theorem ev_catR {a b : List (List Int)} (hz : a.length + b.length ≤ 100000) (ha : EvD K ta ρ (room a)) (hb : EvD K tb ρ (room b)) : EvD K (tOp (rAddX K) ta tb) ρ (room (a ++ b)) :=
  ev_is (ev_cat (xs := a.map dt) (ys := b.map dt) (by rw [List.length_map, List.length_map]; exact hz) ha hb).toD (by unfold room; rw [List.map_append])
/-- «not» of a call that answers by a truth -/
theorem et_notP {Pd : Prop} (h : EvR K te ρ (fun e => ∃ b, e = .bl b ∧ (b = true → Pd))) : EvT K (tNot (tB te)) ρ (fun b => b = false → Pd) :=
  et_not (et_B (h.mono fun e ⟨b, e1, k⟩ => ⟨b, e1, fun hb => k (by cases b <;> first | rfl | cases hb)⟩))
theorem et_orP {R1 R2 : Prop} {tt tu : TT} (h1 : EvT K tt ρ (fun b => b = false → R1)) (h2 : R1 → EvT K tu ρ (fun b => b = false → R2)) : EvT K (tOr tt tu) ρ (fun b => b = false → R1 ∧ R2) :=
  et_or (R1 := fun b => b = false → R1) h1 (fun r => (h2 (r rfl)).mono fun b k hb => ⟨r rfl, k hb⟩) fun _ z => nomatch z
theorem et_P {tt : TT} {b : Bool} {Pd : Prop} (h : EvT K tt ρ (fun x => x = b)) (k : b = false → Pd) : EvT K tt ρ (fun b => b = false → Pd) := h.mono fun x e z => k (by rw [← e]; exact z)
end
end Tx
end
section
set_option Elab.async false
set_option linter.all false
set_option maxRecDepth 100000
set_option maxHeartbeats 4000000
set_option autoImplicit false
set_option exponentiation.threshold 100000
/-! W5: papers of falls. -/
namespace Tx
open PySem L2 Kr Kt Li
theorem part_len' {d : D} {n : Nat} (h : partB d n = true) : ∃ xs, d = .lst xs ∧ xs.length = n := by
  cases d with
  | lst xs => exact ⟨xs, rfl, by have := of_decide_eq_true h; omega⟩
  | _ => cases h
section
variable {P : Program} {w : World} {K : PySem.W.Frag} {mg : Str → Option Value} {base : Heap} {f : Addr} {fd : FuncData}
theorem ok_steps_show (T : Txt K mg) (F : FunD K "steps_show" "steps_show" (defArgs ssteps_show) (defBody ssteps_show) (defScope ssteps_show) [] [] f fd) (k_reach : Cal P w K mg base "reach" 2 ["thing", "mode", "row"] (sp_reach K)) (k_all_show : Cal P w K mg base "all_show" 4 ["rows", "targets", "some"] (sp_all_show K)) (k_standing : Cal P w K mg base "standing" 3 ["thing", "rows"] (sp_standing K)) (k_is_part : Cal P w K mg base "is_part" 1 ["some", "many"] (sp_is_part K)) (k_Thing_modes : CalM P w K mg base (cThing K) "modes" 1 ["self"] (sp_Thing_modes K)) : FnOk P w K mg base CX0 5 f fd ["thing", "room", "after", "some"] (sp_steps_show K) := by
  refine fn_ok F sc_steps_show (fun _ => rfl) (fun cdv A' outer s H E hr => ⟨_, (pss_cons (ps_set (i := 4) sc_steps_show.nd rfl (Or.inl rfl) (pe_mt0 k_Thing_modes (hr.mono (by decide)) (pv 0)))
      (pss_cons (ps_if (pt_not (pt_val (pe_cal k_is_part (hr.mono (by decide)) rfl (pa_cons (pv 3) (pa_cons (pe_callB (len_K (K := K) rfl) rfl T.m_len bt_len (pa_cons (pv 4) pa_nil)) pa_nil))))) (pss_one (ps_ret pe_bl)) pss_nil)
      (pss_cons (ps_for PassesOwn.never rfl (zip_K (K := K) rfl rfl T.m_zip (pa_cons (pv 4) (pa_cons (pv 3) pa_nil))) (tup_K (K := K) (n := 2) rfl rfl (pgs_cons (pg_name (i := 5) sc_steps_show.nd rfl (Or.inr rfl)) (pgs_cons (pg_name (i := 6) sc_steps_show.nd rfl (Or.inl rfl)) pgs_nil))) (pss_cons (ps_set (i := 7) sc_steps_show.nd rfl (Or.inl rfl) (pe_cal k_standing (hr.mono (by decide)) rfl (pa_cons (pv 0) (pa_cons (pe_op (add_K (K := K) rfl) (pv 1) (fld_K (K := K) rfl (pv 5) rfl)) pa_nil))))
      (pss_one (ps_if (pt_not (pt_val (pe_cal k_all_show (hr.mono (by decide)) rfl (pa_cons (pv 7) (pa_cons (pe_lc (own := [("row", 8)]) rfl sc_steps_show.nd (seq_K (K := K) rfl (pv 2)) (blkOk_by (by kernel_rfl)) (fun _ _ _ _ _ => (pg_name (i := 8) sc_steps_show.nd rfl (Or.inl rfl))) (fun _ _ _ _ _ => pts_nil) (fun _ _ _ _ _ => (pe_cal k_reach (hr.mono (by decide)) rfl (pa_cons (pv 0) (pa_cons (pv 5) (pa_cons (pv 8) pa_nil)))))) (pa_cons (pv 6) pa_nil)))))) (pss_one (ps_ret pe_bl)) pss_nil))))
      (pss_one (ps_ret pe_bl))))), ?_⟩)
  rintro ⟨t, rs, ts, d⟩ ⟨h, l1, l2, w1, w2, b1, b2, q, hd⟩
  have hp : t.ps.length ≤ 6 := h.pl
  have hn : t.n ≤ 3 := h.n3
  have hm : t.ms.length ≤ 40 := h.ml
  have l1 : rs.length ≤ 100 := l1
  have l2 : ts.length ≤ 100 := l2
  have hd : Ok 4000 q d := hd
  refine rq_setD (d := .lst (t.ms.map (mdO K t.n))) (ev_modes (ev_var rfl) (by decide +kernel)) ?_
  refine rq_if (et_notD (etB (ev_callD (d, (t.ms.length : Int)) (ea_consD (ev_var rfl) (ea_consD (ev_is (ev_len (ev_var rfl)) (by rw [List.length_map])) ea_nil)) hd.ty))) (fun _ => r_retD ev_bl ⟨false, rfl, fun z => nomatch z⟩) (fun z => r_next ?_)
  obtain ⟨xs, rfl, lx⟩ := part_len' (n := t.ms.length) (show partB d t.ms.length = true from bl_not z)
  obtain ⟨hz, q', rfl, hx⟩ := hd.lst
  refine rq_forD (ei_zip (x := .lst (t.ms.map (mdO K t.n))) (y := .lst xs) (.inl rfl) (.inl rfl) (ev_var rfl) (ev_var rfl)) (fun k ρ => (∃ x5 x6 x7 x8 : Option Sl, ρ = [some (.p (thO K t)), some (.p (room rs)), some (.p (room ts)), some (.p (.lst xs)), some (.p (.lst (t.ms.map (mdO K t.n)))), x5, x6, x7, x8]) ∧ ∀ m ∈ t.ms.take k, ∀ r ∈ ts, Li.Shows (stand t.n t.ps (rs ++ m.rows)) (Li.reach t.n t.ps.length m.nexts m.push m.add m.div r)) ⟨⟨none, none, none, none, rfl⟩, fun m hm => nomatch hm⟩ ?_ ?_
  · rintro k d ρ1 hd ⟨⟨x5, x6, x7, x8, rfl⟩, ih⟩
    obtain ⟨x, y, hx', hy, rfl⟩ := zipD_get hd
    obtain ⟨m, hm', rfl⟩ := map_get hx'
    have wm : WfMd t.n t.ps.length m := h.mw m (mem_at hm')
    have rl := wm.rl
    refine ⟨_, _, tg_tup rfl (tgs_cons tg_name (tgs_cons tg_name tgs_nil)), ?_⟩
    have wl : ∀ r ∈ rs ++ m.rows, r.length = t.n + 1 := fun r hr => (List.mem_append.mp hr).elim (w1 r) (wm.rw r)
    have bl : ∀ r ∈ rs ++ m.rows, ∀ x ∈ r, Bd 1000 x := fun r hr => (List.mem_append.mp hr).elim (b1 r) (wm.br r)
    have ll : (rs ++ m.rows).length ≤ 200 := by rw [List.length_append]; omega
    refine rq_setD (d := room (stand t.n t.ps (rs ++ m.rows))) (ev_callD (t, rs ++ m.rows) (ea_consD (ev_var rfl) (ea_consD (ev_catR (by omega) (ev_var rfl) (ev_fld T.cl_Mode T.n_Mode_rows rfl (ev_var rfl))) ea_nil)) ⟨h, by show (rs ++ m.rows).length ≤ 1000; omega, fun r hr => ⟨ne_nil_len (wl r hr), by rw [wl r hr]; omega⟩⟩) ?_
    refine r_if (et_notP (ev_callD (stand t.n t.ps (rs ++ m.rows), ts.map (Li.reach t.n t.ps.length m.nexts m.push m.add m.div), y) (ea_consD (ev_var rfl) (ea_consD (ev_is (ev_lcD (fun d => match d with | .tup xs => dt (Li.reach t.n t.ps.length m.nexts m.push m.add m.div (xs.map fun d => match d with | .int i => i | _ => 0)) | d => d) (ei_lst (ev_var rfl)) (by rw [List.length_map]; omega) (fun _ h => h) fun d hd => ?_).toD ?_) (ea_consD (ev_var rfl) ea_nil))) ⟨?_, ?_, ⟨t.n + t.ps.length, by omega, stand_w wl, ?_⟩, stand_b bl h.pb, ?_, q', hx y (mem_at hy)⟩)) (fun _ => r_retD ev_bl ⟨false, rfl, fun z => nomatch z⟩) (fun z => r_next ?_)
    · obtain ⟨r, hr, rfl⟩ := List.mem_map.mp hd
      refine ⟨_, tg_name, ev_is (ev_callD (t, m, r) (ea_consD (ev_var rfl) (ea_consD (ev_var rfl) (ea_consD (ev_var rfl) ea_nil))) ⟨h, wm, w2 r hr, fun x hx => (b2 r hr x hx).mono (by decide)⟩) ?_⟩
      show dt _ = dt _
      rw [List.map_map]
      congr 1
      congr 1
      exact (List.map_id r).symm
    · show D.lst _ = D.lst _
      rw [List.map_map, List.map_map]
      congr 1
      refine List.map_congr_left fun r hr => ?_
      show dt _ = dt _
      rw [List.map_map]
      congr 1
      congr 1
      exact List.map_id r
    · show (stand t.n t.ps (rs ++ m.rows)).length ≤ 1000
      rw [stand_len]; omega
    · show (ts.map _).length ≤ 1000
      rw [List.length_map]; omega
    · intro r hr
      obtain ⟨r', hr', rfl⟩ := List.mem_map.mp hr
      exact reach_len wm r'
    · intro r hr x hx
      obtain ⟨r', hr', rfl⟩ := List.mem_map.mp hr
      exact (reach_b wm (b2 r' hr') (by rw [show r'.length = t.n + 1 from w2 r' hr']; omega) x hx).mono (by decide)
    · refine ⟨⟨_, _, _, _, rfl⟩, fun m2 hm2 r hr => ?_⟩
      rw [take_snoc hm'] at hm2
      rcases List.mem_append.mp hm2 with hm2 | hm2
      · exact ih m2 hm2 r hr
      · rw [List.mem_singleton.mp hm2]
        exact z rfl _ (List.mem_map.mpr ⟨r, hr, rfl⟩)
  · rintro ρ1 ⟨⟨x5, x6, x7, x8, rfl⟩, ih⟩
    refine r_retD ev_bl ⟨true, rfl, fun _ => ?_⟩
    rw [zipD_len, List.length_map, lx, Nat.min_self, List.take_length] at ih
    exact ih

theorem ok_Falls_falls_by (T : Txt K mg) (F : FunD K "falls_by" "Falls.falls_by" (defArgs sFalls_falls_by) (defBody sFalls_falls_by) (defScope sFalls_falls_by) [] [] f fd) (k_shows : Cal P w K mg base "shows" 3 ["rows", "target", "shares"] (sp_shows K)) (k_turned_about : Cal P w K mg base "turned_about" 1 ["row"] (sp_turned_about K)) (k_standing : Cal P w K mg base "standing" 3 ["thing", "rows"] (sp_standing K)) (k_fall : Cal P w K mg base "fall" 3 ["thing", "mode", "measure", "step"] (sp_fall K)) (k_is_part : Cal P w K mg base "is_part" 1 ["some", "many"] (sp_is_part K)) : FnOk P w K mg base CX0 4 f fd ["self", "thing", "mode", "goal", "some"] (sp_Falls_falls_by K) := by
  refine fn_ok F sc_Falls_falls_by (fun _ => rfl) (fun cdv A' outer s H E hr => ⟨_, (pss_cons (ps_if (pt_not (pt_val (pe_cal k_is_part (hr.mono (by decide)) rfl (pa_cons (pv 4) (pa_cons (pe_callB (len_K (K := K) rfl) rfl T.m_len bt_len (pa_cons (pv 3) pa_nil)) pa_nil))))) (pss_one (ps_ret pe_bl)) pss_nil)
      (pss_cons (ps_set (i := 5) sc_Falls_falls_by.nd rfl (Or.inl rfl) (pe_cal k_fall (hr.mono (by decide)) rfl (pa_cons (pv 1) (pa_cons (pv 2) (pa_cons (fld_K (K := K) rfl (pv 0) rfl) (pa_cons (fld_K (K := K) rfl (pv 0) rfl) pa_nil))))))
      (pss_cons (ps_for PassesOwn.never rfl (zip_K (K := K) rfl rfl T.m_zip (pa_cons (pv 3) (pa_cons (pv 4) pa_nil))) (tup_K (K := K) (n := 2) rfl rfl (pgs_cons (pg_name (i := 6) sc_Falls_falls_by.nd rfl (Or.inl rfl)) (pgs_cons (pg_name (i := 7) sc_Falls_falls_by.nd rfl (Or.inl rfl)) pgs_nil))) (pss_cons (ps_set (i := 8) sc_Falls_falls_by.nd rfl (Or.inl rfl) (pe_cal k_standing (hr.mono (by decide)) rfl (pa_cons (pv 1) (pa_cons (pe_op (add_K (K := K) rfl) (pe_op (add_K (K := K) rfl) (fld_K (K := K) rfl (pv 0) rfl) (fld_K (K := K) rfl (pv 2) rfl)) (pe_lst (pa_cons (pe_cal k_turned_about (hr.mono (by decide)) rfl (pa_cons (pv 6) pa_nil)) pa_nil))) pa_nil))))
      (pss_one (ps_if (pt_not (pt_val (pe_cal k_shows (hr.mono (by decide)) rfl (pa_cons (pv 8) (pa_cons (pv 5) (pa_cons (pv 7) pa_nil)))))) (pss_one (ps_ret pe_bl)) pss_nil))))
      (pss_one (ps_ret pe_bl))))), ?_⟩)
  rintro ⟨F, t, m, gs, d⟩ ⟨hF, h, wm, l1, w1, b1, q, hd⟩
  have hp : t.ps.length ≤ 6 := h.pl
  have hn : t.n ≤ 3 := h.n3
  have hF : WfFl t.n F := hF
  have wm : WfMd t.n t.ps.length m := wm
  have l1 : gs.length ≤ 100 := l1
  have hd : Ok 4000 q d := hd
  refine rq_if (et_notD (etB (ev_callD (d, (gs.length : Int)) (ea_consD (ev_var rfl) (ea_consD (ev_is (ev_len (ev_var rfl)) (by rw [List.length_map])) ea_nil)) hd.ty))) (fun _ => r_retD ev_bl ⟨false, rfl, fun z => nomatch z⟩) (fun z => r_next ?_)
  obtain ⟨xs, rfl, lx⟩ := part_len' (n := gs.length) (show partB d gs.length = true from bl_not z)
  obtain ⟨hz, q', rfl, hx⟩ := hd.lst
  have ml : F.measure.length = t.n + 1 := hF.ml
  have rl : m.rows.length ≤ 100 := wm.rl
  have fl : F.room.length ≤ 50 := hF.rl
  refine rq_setD (d := dt (Li.fall t.n t.ps.length m.nexts m.push m.add m.div F.measure F.step)) (ev_callD (t, m, F.measure, F.step) (ea_consD (ev_var rfl) (ea_consD (ev_var rfl) (ea_consD (ev_fld T.cl_Falls T.n_Falls_measure rfl (ev_var rfl)) (ea_consD (ev_fld T.cl_Falls T.n_Falls_step rfl (ev_var rfl)) ea_nil)))) ⟨h, wm, ml, fun x hx => (hF.mb x hx).mono (by decide), hF.sb.mono (by decide)⟩) ?_
  refine rq_forD (ei_zip (x := room gs) (y := .lst xs) (.inl rfl) (.inl rfl) (ev_var rfl) (ev_var rfl)) (fun k ρ => (∃ x6 x7 x8 : Option Sl, ρ = [some (.p (flO K F)), some (.p (thO K t)), some (.p (mdO K t.n m)), some (.p (room gs)), some (.p (.lst xs)), some (.p (dt (Li.fall t.n t.ps.length m.nexts m.push m.add m.div F.measure F.step))), x6, x7, x8]) ∧ ∀ g ∈ gs.take k, Li.Shows (stand t.n t.ps (F.room ++ m.rows ++ [Li.neg g])) (Li.fall t.n t.ps.length m.nexts m.push m.add m.div F.measure F.step)) ⟨⟨none, none, none, rfl⟩, fun m hm => nomatch hm⟩ ?_ ?_
  · rintro k d ρ1 hd ⟨⟨x6, x7, x8, rfl⟩, ih⟩
    obtain ⟨x, y, hx', hy, rfl⟩ := zipD_get hd
    obtain ⟨g, hg, rfl⟩ := map_get hx'
    have gm := mem_at hg
    have gw : g.length = t.n + 1 := w1 g gm
    refine ⟨_, _, tg_tup rfl (tgs_cons tg_name (tgs_cons tg_name tgs_nil)), ?_⟩
    have wl : ∀ r ∈ F.room ++ m.rows ++ [Li.neg g], r.length = t.n + 1 := fun r hr => by
      rcases List.mem_append.mp hr with hr | hr
      · exact (List.mem_append.mp hr).elim (hF.rw r) (wm.rw r)
      · rw [List.mem_singleton.mp hr, neg_len, gw]
    have bl : ∀ r ∈ F.room ++ m.rows ++ [Li.neg g], ∀ x ∈ r, Bd 1000 x := fun r hr => by
      rcases List.mem_append.mp hr with hr | hr
      · exact (List.mem_append.mp hr).elim (hF.rb r) (wm.br r)
      · rw [List.mem_singleton.mp hr]
        exact fun x hx => (neg_b (b1 g gm) x hx).mono (by decide)
    have ll : (F.room ++ m.rows ++ [Li.neg g]).length ≤ 200 := by rw [List.length_append, List.length_append, List.length_singleton]; omega
    refine rq_setD (d := room (stand t.n t.ps (F.room ++ m.rows ++ [Li.neg g]))) (ev_callD (t, F.room ++ m.rows ++ [Li.neg g]) (ea_consD (ev_var rfl) (ea_consD (ev_catR (a := F.room ++ m.rows) (b := [Li.neg g]) (by rw [List.length_append, List.length_singleton]; omega) (ev_catR (by omega) (ev_fld T.cl_Falls T.n_Falls_room rfl (ev_var rfl)) (ev_fld T.cl_Mode T.n_Mode_rows rfl (ev_var rfl))) (ev_lstD (ea_consD (ev_callD g (ea_consD (ev_var rfl) ea_nil) (by show g.length ≤ 1000; omega)) ea_nil) (by show 1 ≤ 100000; decide)).toD) ea_nil)) ⟨h, by show (F.room ++ m.rows ++ [Li.neg g]).length ≤ 1000; omega, fun r hr => ⟨ne_nil_len (wl r hr), by rw [wl r hr]; omega⟩⟩) ?_
    refine r_if (et_notP (ev_callD (stand t.n t.ps (F.room ++ m.rows ++ [Li.neg g]), Li.fall t.n t.ps.length m.nexts m.push m.add m.div F.measure F.step, y) (ea_consD (ev_var rfl) (ea_consD (ev_var rfl) (ea_consD (ev_var rfl) ea_nil))) ⟨?_, ⟨t.n + t.ps.length, by omega, fall_len wm ml F.step⟩, fun r hr => (stand_w wl r hr).trans (fall_len wm ml F.step).symm, stand_b bl h.pb, fall_b wm (by omega) (fun x hx => (hF.mb x hx).mono (by decide)) hF.sb, q', hx y (mem_at hy)⟩)) (fun _ => r_retD ev_bl ⟨false, rfl, fun z => nomatch z⟩) (fun z => r_next ?_)
    · show (stand t.n t.ps (F.room ++ m.rows ++ [Li.neg g])).length ≤ 1000
      rw [stand_len]; omega
    · refine ⟨⟨_, _, _, rfl⟩, fun g2 hg2 => ?_⟩
      rw [take_snoc hg] at hg2
      rcases List.mem_append.mp hg2 with hg2 | hg2
      · exact ih g2 hg2
      · rw [List.mem_singleton.mp hg2]
        exact z rfl
  · rintro ρ1 ⟨⟨x6, x7, x8, rfl⟩, ih⟩
    refine r_retD ev_bl ⟨true, rfl, fun _ => ?_⟩
    rw [zipD_len, List.length_map, lx, Nat.min_self, List.take_length] at ih
    exact ih

theorem ok_Falls_is_high (T : Txt K mg) (F : FunD K "is_high" "Falls.is_high" (defArgs sFalls_is_high) (defBody sFalls_is_high) (defScope sFalls_is_high) [] [] f fd) (k_turned_about : Cal P w K mg base "turned_about" 1 ["row"] (sp_turned_about K)) (k_shows : Cal P w K mg base "shows" 3 ["rows", "target", "shares"] (sp_shows K)) (k_is_part : Cal P w K mg base "is_part" 1 ["some", "many"] (sp_is_part K)) : FnOk P w K mg base CX0 4 f fd ["self", "claim"] (sp_Falls_is_high K) := by
  refine fn_ok F sc_Falls_is_high (fun _ => rfl) (fun cdv A' outer s H E hr => ⟨_, (pss_cons (ps_set (i := 2) sc_Falls_is_high.nd rfl (Or.inl rfl) (pe_slice (sl_K (K := K) rfl) (fld_K (K := K) rfl (pv 0) rfl) po_none (po_some (pe_un un_neg pe_int))))
      (pss_cons (ps_if (pt_not (pt_val (pe_cal k_shows (hr.mono (by decide)) rfl (pa_cons (fld_K (K := K) rfl (pv 1) rfl) (pa_cons (pe_op (add_K (K := K) rfl) (pv 2) (pe_tup (pa_cons (pe_op op_sub (fld_K (K := K) rfl (pv 0) rfl) (pe_ix (ix_K (K := K) rfl) (fld_K (K := K) rfl (pv 0) rfl) (pe_un un_neg pe_int) (fun _ _ => rfl))) pa_nil))) (pa_cons (fld_K (K := K) rfl (pv 0) rfl) pa_nil)))))) (pss_one (ps_ret pe_bl)) pss_nil)
      (pss_cons (ps_if (pt_not (pt_val (pe_cal k_is_part (hr.mono (by decide)) rfl (pa_cons (fld_K (K := K) rfl (pv 0) rfl) (pa_cons (pe_callB (len_K (K := K) rfl) rfl T.m_len bt_len (pa_cons (fld_K (K := K) rfl (pv 1) rfl) pa_nil)) pa_nil))))) (pss_one (ps_ret pe_bl)) pss_nil)
      (pss_cons (ps_set (i := 3) sc_Falls_is_high.nd rfl (Or.inl rfl) (pe_op (add_K (K := K) rfl) (pe_callTy (tuple_K (K := K) rfl) rfl T.m_tuple bt_tuple (pa_cons (pe_lc (own := [("number", 6)]) rfl sc_Falls_is_high.nd (seq_K (K := K) rfl (pv 2)) (blkOk_by (by kernel_rfl)) (fun _ _ _ _ _ => (pg_name (i := 6) sc_Falls_is_high.nd rfl (Or.inl rfl))) (fun _ _ _ _ _ => pts_nil) (fun _ _ _ _ _ => (pe_op op_sub pe_int (pv 6)))) pa_nil)) (pe_tup (pa_cons (pe_ix (ix_K (K := K) rfl) (fld_K (K := K) rfl (pv 0) rfl) (pe_un un_neg pe_int) (fun _ _ => rfl)) pa_nil))))
      (pss_cons (ps_for PassesOwn.never rfl (zip_K (K := K) rfl rfl T.m_zip (pa_cons (fld_K (K := K) rfl (pv 1) rfl) (pa_cons (fld_K (K := K) rfl (pv 0) rfl) pa_nil))) (tup_K (K := K) (n := 2) rfl rfl (pgs_cons (pg_name (i := 4) sc_Falls_is_high.nd rfl (Or.inl rfl)) (pgs_cons (pg_name (i := 5) sc_Falls_is_high.nd rfl (Or.inl rfl)) pgs_nil))) (pss_one (ps_if (pt_not (pt_val (pe_cal k_shows (hr.mono (by decide)) rfl (pa_cons (pe_op (add_K (K := K) rfl) (fld_K (K := K) rfl (pv 0) rfl) (pe_lst (pa_cons (pe_cal k_turned_about (hr.mono (by decide)) rfl (pa_cons (pv 4) pa_nil)) pa_nil))) (pa_cons (pv 3) (pa_cons (pv 5) pa_nil)))))) (pss_one (ps_ret pe_bl)) pss_nil)))
      (pss_one (ps_ret pe_bl))))))), ?_⟩)
  rintro ⟨F, c, n⟩ ⟨hn, hF, hc⟩
  have hn : n ≤ 3 := hn
  have hF : WfFl n F := hF
  have hc : WfCo n c := hc
  have ml := hF.ml
  have mn : F.measure ≠ [] := ne_nil_len ml
  have dl' : F.measure.dropLast.length = n := by rw [List.length_dropLast, ml]; omega
  have lb := hF.mb _ (last_mem mn)
  obtain ⟨q4, o4⟩ := hF.o4
  refine rq_setD (d := dt F.measure.dropLast) (ev_lastT (ev_fld T.cl_Falls T.n_Falls_measure rfl (ev_var rfl)) (ev_neg ev_int)) ?_
  refine rq_if (et_notP (ev_callD (c.start, F.measure.dropLast ++ [F.top - F.measure.getLastD 0], F.tops) (ea_consD (ev_fld T.cl_Comes T.n_Comes_start rfl (ev_var rfl)) (ea_consD (ev_catI (by rw [dl', List.length_singleton]; omega) (ev_var rfl) (ev_one (ev_sub (ev_fld T.cl_Falls T.n_Falls_top rfl (ev_var rfl)) (ev_ixT (at_lastI mn) (ev_fld T.cl_Falls T.n_Falls_measure rfl (ev_var rfl)) (ev_neg ev_int))))) (ea_consD (ev_fld T.cl_Falls T.n_Falls_tops rfl (ev_var rfl)) ea_nil))) ⟨?_, ⟨n, by omega, ?_⟩, ?_, ?_, ?_, hF.o5⟩)) (fun _ => r_retD ev_bl ⟨false, rfl, fun z => nomatch z⟩) (fun z1 => r_next ?_)
  · show c.start.length ≤ 1000
    have := hc.sl; omega
  · show (F.measure.dropLast ++ [F.top - F.measure.getLastD 0]).length = n + 1
    rw [List.length_append, dl'] <;> rfl
  · intro r hr
    show r.length = (F.measure.dropLast ++ [F.top - F.measure.getLastD 0]).length
    rw [hc.sw r hr, List.length_append, dl'] <;> rfl
  · exact fun r hr x hx => (hc.sb r hr x hx).mono (by decide)
  · intro x hx
    rcases List.mem_append.mp hx with hx | hx
    · exact (hF.mb x (mem_dl hx)).mono (by decide)
    · rw [List.mem_singleton.mp hx]
      exact (Bd.sub hF.tb lb).mono (by decide)
  have z1 := z1 rfl
  refine rq_if (et_notD (etB (ev_callD (F.floors, (c.goal.length : Int)) (ea_consD (ev_fld T.cl_Falls T.n_Falls_floors rfl (ev_var rfl)) (ea_consD (ev_is (ev_len (ev_fld T.cl_Comes T.n_Comes_goal rfl (ev_var rfl))) (by rw [List.length_map])) ea_nil)) o4.ty))) (fun _ => r_retD ev_bl ⟨false, rfl, fun z => nomatch z⟩) (fun z => r_next ?_)
  obtain ⟨xs, ef, lx⟩ := part_len' (n := c.goal.length) (show partB F.floors c.goal.length = true from bl_not z)
  rw [ef] at o4
  obtain ⟨hz, q', rfl, hx⟩ := o4.lst
  refine rq_setD (d := dt (Li.neg F.measure.dropLast ++ [F.measure.getLastD 0])) (ev_catI (by rw [neg_len, dl', List.length_singleton]; omega) (ev_tuple (ev_is (ev_lcD (fun d => match d with | .int i => .int (0 - i) | d => d) (ei_tup (ev_var rfl)) (by rw [List.length_map]; omega) (fun _ h => h) fun d hd => ?_).toD ?_)) (ev_one (ev_ixT (at_lastI mn) (ev_fld T.cl_Falls T.n_Falls_measure rfl (ev_var rfl)) (ev_neg ev_int)))) ?_
  · obtain ⟨i, hi, rfl⟩ := List.mem_map.mp hd
    exact ⟨_, tg_name, ev_sub ev_int (ev_var rfl)⟩
  · show D.lst _ = D.lst _
    rw [List.map_map, Li.neg, List.map_map] <;> rfl
  refine rq_forD (ei_zip (x := room c.goal) (y := .lst xs) (.inl rfl) (.inl rfl) (ev_fld T.cl_Comes T.n_Comes_goal rfl (ev_var rfl)) (ev_is (ev_fld T.cl_Falls T.n_Falls_floors rfl (ev_var rfl)) ef)) (fun k ρ => (∃ x4 x5 x6 : Option Sl, ρ = [some (.p (flO K F)), some (.p (coO K c)), some (.p (dt F.measure.dropLast)), some (.p (dt (Li.neg F.measure.dropLast ++ [F.measure.getLastD 0]))), x4, x5, x6]) ∧ ∀ g ∈ c.goal.take k, Li.Shows (F.room ++ [Li.neg g]) (Li.neg F.measure.dropLast ++ [F.measure.getLastD 0])) ⟨⟨none, none, none, rfl⟩, fun m hm => nomatch hm⟩ ?_ ?_
  · rintro k d ρ1 hd ⟨⟨x4, x5, x6, rfl⟩, ih⟩
    obtain ⟨x, y, hx', hy, rfl⟩ := zipD_get hd
    obtain ⟨g, hg, rfl⟩ := map_get hx'
    have gm := mem_at hg
    have gw : g.length = n + 1 := hc.gw g gm
    have rl := hF.rl
    refine ⟨_, _, tg_tup rfl (tgs_cons tg_name (tgs_cons tg_name tgs_nil)), ?_⟩
    have tl : (Li.neg F.measure.dropLast ++ [F.measure.getLastD 0]).length = n + 1 := by rw [List.length_append, neg_len, dl'] <;> rfl
    refine r_if (et_notP (ev_callD (F.room ++ [Li.neg g], Li.neg F.measure.dropLast ++ [F.measure.getLastD 0], y) (ea_consD (ev_catR (a := F.room) (b := [Li.neg g]) (by rw [List.length_singleton]; omega) (ev_fld T.cl_Falls T.n_Falls_room rfl (ev_var rfl)) (ev_lstD (ea_consD (ev_callD g (ea_consD (ev_var rfl) ea_nil) (by show g.length ≤ 1000; omega)) ea_nil) (by show 1 ≤ 100000; decide)).toD) (ea_consD (ev_var rfl) (ea_consD (ev_var rfl) ea_nil))) ⟨?_, ⟨n, by omega, tl⟩, ?_, ?_, ?_, q', hx y (mem_at hy)⟩)) (fun _ => r_retD ev_bl ⟨false, rfl, fun z => nomatch z⟩) (fun z => r_next ?_)
    · show (F.room ++ [Li.neg g]).length ≤ 1000
      rw [List.length_append, List.length_singleton]; omega
    · intro r hr
      show r.length = (Li.neg F.measure.dropLast ++ [F.measure.getLastD 0]).length
      rw [tl]
      rcases List.mem_append.mp hr with hr | hr
      · exact hF.rw r hr
      · rw [List.mem_singleton.mp hr, neg_len, gw]
    · intro r hr
      rcases List.mem_append.mp hr with hr | hr
      · exact fun x hx => (hF.rb r hr x hx).mono (by decide)
      · rw [List.mem_singleton.mp hr]
        exact fun x hx => (neg_b (hc.gb g gm) x hx).mono (by decide)
    · intro x hx
      rcases List.mem_append.mp hx with hx | hx
      · exact (neg_b (fun y hy => hF.mb y (mem_dl hy)) x hx).mono (by decide)
      · rw [List.mem_singleton.mp hx]; exact lb.mono (by decide)
    · refine ⟨⟨_, _, _, rfl⟩, fun g2 hg2 => ?_⟩
      rw [take_snoc hg] at hg2
      rcases List.mem_append.mp hg2 with hg2 | hg2
      · exact ih g2 hg2
      · rw [List.mem_singleton.mp hg2]
        exact z rfl
  · rintro ρ1 ⟨⟨x4, x5, x6, rfl⟩, ih⟩
    refine r_retD ev_bl ⟨true, rfl, fun _ => ?_⟩
    rw [zipD_len, List.length_map, lx, Nat.min_self, List.take_length] at ih
    exact ⟨z1, ih⟩

theorem ok_Falls_is_for (T : Txt K mg) (F : FunD K "is_for" "Falls.is_for" (defArgs sFalls_is_for) (defBody sFalls_is_for) (defScope sFalls_is_for) [] [] f fd) (k_Thing_modes : CalM P w K mg base (cThing K) "modes" 1 ["self"] (sp_Thing_modes K)) (k_Falls_falls_by : CalM P w K mg base (cFalls K) "falls_by" 4 ["self", "thing", "mode", "goal", "some"] (sp_Falls_falls_by K)) (k_is_part : Cal P w K mg base "is_part" 1 ["some", "many"] (sp_is_part K)) (k_Falls_is_high : CalM P w K mg base (cFalls K) "is_high" 4 ["self", "claim"] (sp_Falls_is_high K)) (k_steps_show : Cal P w K mg base "steps_show" 5 ["thing", "room", "after", "some"] (sp_steps_show K)) (k_all_show : Cal P w K mg base "all_show" 4 ["rows", "targets", "some"] (sp_all_show K)) (k_is_whole : Cal P w K mg base "is_whole" 1 ["thing"] (sp_is_whole K)) (k_is_row : Cal P w K mg base "is_row" 2 ["thing", "many"] (sp_is_row K)) (k_is_room : Cal P w K mg base "is_room" 3 ["thing", "many"] (sp_is_room K)) : FnOk P w K mg base CX0 6 f fd ["self", "thing", "claim"] (sp_Falls_is_for K) := by
  refine fn_ok F sc_Falls_is_for (fun _ => rfl) (fun cdv A' outer s H E hr => ⟨_, (pss_cons (ps_if (PW.pt (pw_or (pt_not (pt_val (pe_callB (isi_K (K := K) rfl) rfl T.m_isinstance bt_isinstance (pa_cons (pv 2) (pa_cons (pe_glob (v := .ref (cComes K)) rfl T.mg_Comes rfl) pa_nil))))) (pw_or1 (pt_not (pt_val (pe_cal k_is_room (hr.mono (by decide)) rfl (pa_cons (fld_K (K := K) rfl (pv 0) rfl) (pa_cons (fld_K (K := K) rfl (pv 1) rfl) pa_nil)))))))) (pss_one (ps_ret pe_bl)) pss_nil)
      (pss_cons (ps_if (PW.pt (pw_or (pt_not (pt_val (pe_cal k_is_row (hr.mono (by decide)) rfl (pa_cons (fld_K (K := K) rfl (pv 0) rfl) (pa_cons (fld_K (K := K) rfl (pv 1) rfl) pa_nil))))) (pw_or (pt_not (pt_val (pe_cal k_is_whole (hr.mono (by decide)) rfl (pa_cons (fld_K (K := K) rfl (pv 0) rfl) pa_nil)))) (pw_or1 (pt_not (pt_val (pe_cal k_is_whole (hr.mono (by decide)) rfl (pa_cons (fld_K (K := K) rfl (pv 0) rfl) pa_nil)))))))) (pss_one (ps_ret pe_bl)) pss_nil)
      (pss_cons (ps_if (PW.pt (pw_or (pt_cmpR op_lt (fld_K (K := K) rfl (pv 0) rfl) pe_int (nomark _)) (pw_or1 (pt_cmpR op_le (pe_op (mul_K (K := K) rfl) (fld_K (K := K) rfl (pv 2) rfl) (fld_K (K := K) rfl (pv 0) rfl)) (fld_K (K := K) rfl (pv 0) rfl) (nomark _))))) (pss_one (ps_ret pe_bl)) pss_nil)
      (pss_cons (ps_if (pt_not (pt_val (pe_cal k_all_show (hr.mono (by decide)) rfl (pa_cons (fld_K (K := K) rfl (pv 2) rfl) (pa_cons (fld_K (K := K) rfl (pv 0) rfl) (pa_cons (fld_K (K := K) rfl (pv 0) rfl) pa_nil)))))) (pss_one (ps_ret pe_bl)) pss_nil)
      (pss_cons (ps_if (pt_not (pt_val (pe_cal k_steps_show (hr.mono (by decide)) rfl (pa_cons (pv 1) (pa_cons (fld_K (K := K) rfl (pv 0) rfl) (pa_cons (fld_K (K := K) rfl (pv 0) rfl) (pa_cons (fld_K (K := K) rfl (pv 0) rfl) pa_nil))))))) (pss_one (ps_ret pe_bl)) pss_nil)
      (pss_cons (ps_if (PW.pt (pw_or (pt_not (pt_val (pe_mt k_Falls_is_high (hr.mono (by decide)) (pv 0) (pa_cons (pv 2) pa_nil)))) (pw_or1 (pt_not (pt_val (pe_cal k_is_part (hr.mono (by decide)) rfl (pa_cons (fld_K (K := K) rfl (pv 0) rfl) (pa_cons (pe_callB (len_K (K := K) rfl) rfl T.m_len bt_len (pa_cons (pe_mt0 k_Thing_modes (hr.mono (by decide)) (pv 1)) pa_nil)) pa_nil)))))))) (pss_one (ps_ret pe_bl)) pss_nil)
      (pss_cons (ps_for PassesOwn.never rfl (zip_K (K := K) rfl rfl T.m_zip (pa_cons (pe_mt0 k_Thing_modes (hr.mono (by decide)) (pv 1)) (pa_cons (fld_K (K := K) rfl (pv 0) rfl) pa_nil))) (tup_K (K := K) (n := 2) rfl rfl (pgs_cons (pg_name (i := 3) sc_Falls_is_for.nd rfl (Or.inl rfl)) (pgs_cons (pg_name (i := 4) sc_Falls_is_for.nd rfl (Or.inl rfl)) pgs_nil))) (pss_one (ps_if (pt_not (pt_val (pe_mt k_Falls_falls_by (hr.mono (by decide)) (pv 0) (pa_cons (pv 1) (pa_cons (pv 3) (pa_cons (fld_K (K := K) rfl (pv 2) rfl) (pa_cons (pv 4) pa_nil))))))) (pss_one (ps_ret pe_bl)) pss_nil)))
      (pss_one (ps_ret pe_bl))))))))), ?_⟩)
  rintro ⟨F, t, c⟩ ⟨h, hF, hc, hg⟩
  have hn : t.n ≤ 3 := h.n3
  have hF : WfFl t.n F := hF
  have hc : WfCo t.n c := hc
  have ml := hF.ml
  have rl := hF.rl
  obtain ⟨q3, o3⟩ := hF.o3
  have okR : Ok 1000 2 (room F.room) := ok_room (n := 0) (by omega) (fun r hr => by rw [hF.rw r hr]; omega) hF.rb
  have okM : Ok 900 1 (dt F.measure) := ok_intsT (n := 0) (by omega) hF.mb
  refine rq_if (et_orD (et_notD (etB (ev_isC T.is_Comes (ev_var rfl)))) fun _ => et_notD (etB (ev_callD (room F.room, (t.n : Int)) (ea_consD (ev_fld T.cl_Falls T.n_Falls_room rfl (ev_var rfl)) (ea_consD (ev_fld T.cl_Thing T.n_Thing_many rfl (ev_var rfl)) ea_nil)) ⟨_, _, okR⟩))) (fun _ => r_retD ev_bl ⟨false, rfl, fun z => nomatch z⟩) (fun _ => r_next ?_)
  refine rq_if (et_orD (et_notD (etB (ev_callD (dt F.measure, (t.n : Int)) (ea_consD (ev_fld T.cl_Falls T.n_Falls_measure rfl (ev_var rfl)) (ea_consD (ev_fld T.cl_Thing T.n_Thing_many rfl (ev_var rfl)) ea_nil)) ⟨_, _, okM⟩))) fun _ => et_orD (et_notD (etB (ev_callD (D.int F.step) (ea_consD (ev_fld T.cl_Falls T.n_Falls_step rfl (ev_var rfl)) ea_nil) (ty_int _)))) fun _ => et_notD (etB (ev_callD (D.int F.top) (ea_consD (ev_fld T.cl_Falls T.n_Falls_top rfl (ev_var rfl)) ea_nil) (ty_int _)))) (fun _ => r_retD ev_bl ⟨false, rfl, fun z => nomatch z⟩) (fun _ => r_next ?_)
  refine rq_if (et_orD (etD (ev_lt (ev_fld (d := .int F.step) T.cl_Falls T.n_Falls_step rfl (ev_var rfl)) ev_int)) fun _ => etD (ev_le (ev_mul hc.tb hF.sb (by decide) (by decide) (by decide) (ev_fld T.cl_Comes T.n_Comes_turns rfl (ev_var rfl)) (ev_fld T.cl_Falls T.n_Falls_step rfl (ev_var rfl))) (ev_fld T.cl_Falls T.n_Falls_top rfl (ev_var rfl)))) (fun _ => r_retD ev_bl ⟨false, rfl, fun z => nomatch z⟩) (fun z => r_next ?_)
  have z : (decide (F.step < 1) || decide (c.turns * F.step ≤ F.top)) = false := z.symm
  rw [Bool.or_eq_false_iff] at z
  have s1 : ¬ F.step < 1 := of_decide_eq_false z.1
  have tt : ¬ c.turns * F.step ≤ F.top := of_decide_eq_false z.2
  refine rq_if (et_notP (ev_callD (c.start, F.room, F.starts) (ea_consD (ev_fld T.cl_Comes T.n_Comes_start rfl (ev_var rfl)) (ea_consD (ev_fld T.cl_Falls T.n_Falls_room rfl (ev_var rfl)) (ea_consD (ev_fld T.cl_Falls T.n_Falls_starts rfl (ev_var rfl)) ea_nil))) ⟨?_, ?_, ⟨t.n, by omega, hc.sw, hF.rw⟩, fun r hr x hx => (hc.sb r hr x hx).mono (by decide), fun r hr x hx => (hF.rb r hr x hx).mono (by decide), hF.o1⟩)) (fun _ => r_retD ev_bl ⟨false, rfl, fun z => nomatch z⟩) (fun z1 => r_next ?_)
  · show c.start.length ≤ 1000
    have := hc.sl; omega
  · show F.room.length ≤ 1000
    omega
  refine rq_if (et_notP (ev_callD (t, F.room, F.room, F.steps) (ea_consD (ev_var rfl) (ea_consD (ev_fld T.cl_Falls T.n_Falls_room rfl (ev_var rfl)) (ea_consD (ev_fld T.cl_Falls T.n_Falls_room rfl (ev_var rfl)) (ea_consD (ev_fld T.cl_Falls T.n_Falls_steps rfl (ev_var rfl)) ea_nil)))) ⟨h, ?_, ?_, hF.rw, hF.rw, hF.rb, hF.rb, hF.o2⟩)) (fun _ => r_retD ev_bl ⟨false, rfl, fun z => nomatch z⟩) (fun z2 => r_next ?_)
  · show F.room.length ≤ 100
    omega
  · show F.room.length ≤ 100
    omega
  refine rq_if (et_orP (R2 := partB F.falls t.ms.length = true) (et_notP (ev_meth (ns := nsFalls) (R := fun e => ∃ b, e = .bl b ∧ (b = true → HighS F c)) (by decide +kernel) (ev_var rfl) (ea_consD (ev_var rfl) ea_nil) fun es e => ⟨(F, c, t.n), by rw [e] <;> rfl, ⟨hn, hF, hc⟩, fun d z => z⟩)) fun _ => et_P (et_notD (etB (ev_callD (F.falls, (t.ms.length : Int)) (ea_consD (ev_fld T.cl_Falls T.n_Falls_falls rfl (ev_var rfl)) (ea_consD (ev_is (ev_len (ev_modes (ev_var rfl) (by decide +kernel))) (by rw [List.length_map])) ea_nil)) o3.ty))) fun z => bl_not z.symm) (fun _ => r_retD ev_bl ⟨false, rfl, fun z => nomatch z⟩) (fun z3 => r_next ?_)
  obtain ⟨z3, z4⟩ := z3 rfl
  obtain ⟨xs, ef, lx⟩ := part_len' z4
  rw [ef] at o3
  obtain ⟨hz, q', rfl, hx⟩ := o3.lst
  refine rq_forD (ei_zip (x := .lst (t.ms.map (mdO K t.n))) (y := .lst xs) (.inl rfl) (.inl rfl) (ev_modes (ev_var rfl) (by decide +kernel)) (ev_is (ev_fld T.cl_Falls T.n_Falls_falls rfl (ev_var rfl)) ef)) (fun k ρ => (∃ x3 x4 : Option Sl, ρ = [some (.p (flO K F)), some (.p (thO K t)), some (.p (coO K c)), x3, x4]) ∧ ∀ m ∈ t.ms.take k, ByS F t m c.goal) ⟨⟨none, none, rfl⟩, fun m hm => nomatch hm⟩ ?_ ?_
  · rintro k d ρ1 hd ⟨⟨x3, x4, rfl⟩, ih⟩
    obtain ⟨x, y, hx', hy, rfl⟩ := zipD_get hd
    obtain ⟨m, hm', rfl⟩ := map_get hx'
    have wm : WfMd t.n t.ps.length m := h.mw m (mem_at hm')
    refine ⟨_, _, tg_tup rfl (tgs_cons tg_name (tgs_cons tg_name tgs_nil)), ?_⟩
    refine r_if (et_notP (ev_meth (ns := nsFalls) (R := fun e => ∃ b, e = .bl b ∧ (b = true → ByS F t m c.goal)) (by decide +kernel) (ev_var rfl) (ea_consD (ev_var rfl) (ea_consD (ev_var rfl) (ea_consD (ev_fld T.cl_Comes T.n_Comes_goal rfl (ev_var rfl)) (ea_consD (ev_var rfl) ea_nil)))) fun es e => ⟨(F, t, m, c.goal, y), by rw [e] <;> rfl, ⟨hF, h, wm, hc.gl, hc.gw, hg, q', hx y (mem_at hy)⟩, fun d z => z⟩)) (fun _ => r_retD ev_bl ⟨false, rfl, fun z => nomatch z⟩) (fun z => r_next ?_)
    refine ⟨⟨_, _, rfl⟩, fun m2 hm2 => ?_⟩
    rw [take_snoc hm'] at hm2
    rcases List.mem_append.mp hm2 with hm2 | hm2
    · exact ih m2 hm2
    · rw [List.mem_singleton.mp hm2]
      exact z rfl
  · rintro ρ1 ⟨⟨x3, x4, rfl⟩, ih⟩
    refine r_retD ev_bl ⟨true, rfl, fun _ => ?_⟩
    rw [zipD_len, List.length_map, lx, Nat.min_self, List.take_length] at ih
    exact ⟨Int.not_lt.mp s1, Int.not_le.mp tt, z1 rfl, z2 rfl, z3, ih⟩

theorem ok_lets_by (T : Txt K mg) (F : FunD K "lets_by" "lets_by" (defArgs slets_by) (defBody slets_by) (defScope slets_by) [] [] f fd) (k_Falls_is_for : CalM P w K mg base (cFalls K) "is_for" 6 ["self", "thing", "claim"] (sp_Falls_is_for K)) (k_check_closed : Cal P w K mg base "check_closed" 2 ["thing"] (sp_check_closed K)) : FnOk P w K mg base CX0 7 f fd ["thing", "claim", "paper"] (sp_lets_by K) := by
  refine fn_ok F sc_lets_by (fun _ => rfl) (fun cdv A' outer s H E hr => ⟨_, (pss_cons (ps_expr (pe_cal k_check_closed (hr.mono (by decide)) rfl (pa_cons (pv 0) pa_nil)))
      (pss_one (ps_ret (pe_mt k_Falls_is_for (hr.mono (by decide)) (pv 2) (pa_cons (pv 0) (pa_cons (pv 1) pa_nil)))))), ?_⟩)
  rintro ⟨F, t, c⟩ ⟨h, hF, hc, hg⟩
  refine r_seq (fun ρ1 => ρ1 = rho0 ["thing", "claim", "paper"] [thO K t, coO K c, flO K F]) (r_drop (ev_callD t (ea_consD (ev_var rfl) ea_nil) h) rfl) ?_
  rintro ρ1 rfl
  exact r_ret (ev_meth (ns := nsFalls) (by decide +kernel) (ev_var rfl) (ea_consD (ev_var rfl) (ea_consD (ev_var rfl) ea_nil)) fun es e => ⟨(F, t, c), by rw [e] <;> rfl, ⟨h, hF, hc, hg⟩, fun d z => z⟩)

theorem ok_kept {n : Nat} (T : Txt K mg) (F : FunD K "kept" "kept" (defArgs skept) (defBody skept) (defScope skept) [] [] f fd) (k_kept : Cal P w K mg base "kept" n ["thing"] (sp_kept K n)) : FnOk P w K mg base CX0 (n + 1) f fd ["thing"] (sp_kept K (n + 1)) := by
  refine fn_ok F sc_kept (fun _ => rfl) (fun cdv A' outer s H E hr => ⟨_, (pss_cons (ps_if (pt_val (pe_callB (isi_K (K := K) rfl) rfl T.m_isinstance bt_isinstance (pa_cons (pv 0) (pa_cons (pe_bltn (v := .ty "list") rfl T.m_list bt_list rfl) pa_nil)))) (pss_one (ps_ret (pe_lc (own := [("one", 1)]) rfl sc_kept.nd (seq_K (K := K) rfl (pv 0)) (blkOk_by (by kernel_rfl)) (fun _ _ _ _ _ => (pg_name (i := 1) sc_kept.nd rfl (Or.inl rfl))) (fun _ _ _ _ _ => pts_nil) (fun _ _ _ _ _ => (pe_cal k_kept hr rfl (pa_cons (pv 1) pa_nil)))))) pss_nil)
      (pss_cons (ps_if (pt_val (pe_callB (isi_K (K := K) rfl) rfl T.m_isinstance bt_isinstance (pa_cons (pv 0) (pa_cons (pe_bltn (v := .ty "tuple") rfl T.m_tuple bt_tuple rfl) pa_nil)))) (pss_one (ps_ret (pe_callTy (tuple_K (K := K) rfl) rfl T.m_tuple bt_tuple (pa_cons (pe_lc (own := [("one", 1)]) rfl sc_kept.nd (seq_K (K := K) rfl (pv 0)) (blkOk_by (by kernel_rfl)) (fun _ _ _ _ _ => (pg_name (i := 1) sc_kept.nd rfl (Or.inl rfl))) (fun _ _ _ _ _ => pts_nil) (fun _ _ _ _ _ => (pe_cal k_kept hr rfl (pa_cons (pv 1) pa_nil)))) pa_nil)))) pss_nil)
      (pss_one (ps_ret (pv 0))))), ?_⟩)
  rintro d ⟨_, B, hd⟩
  have hd : Ok B n d := hd
  refine rq_if (etB (ev_isi hd.ty (kit_list hd.ty) (ev_var rfl))) (fun hb => ?_) (fun h => r_next ?_)
  · rcases lst_or d with ⟨xs, rfl⟩ | hL
    · obtain ⟨hz, m', rfl, hx⟩ := hd.lst
      refine r_retD (ev_is (ev_lcD (fun x => x) (ei_lst (ev_var rfl)) (by omega) (fun _ h => h) fun d hd => ⟨_, tg_name, ev_callD d (ea_consD (ev_var rfl) ea_nil) ⟨by omega, B, hx d hd⟩⟩).toD (by rw [List.map_id'])) rfl
    · rw [hL] at hb; cases hb
  refine rq_if (etB (ev_isi hd.ty (kit_tuple hd.ty) (ev_var rfl))) (fun hb => ?_) (fun h => r_next (r_retD (ev_var rfl) rfl))
  rcases tup_or d with ⟨xs, rfl⟩ | hL
  · obtain ⟨hz, m', rfl, hx⟩ := hd.tup
    refine r_retD (ev_tuple (ev_is (ev_lcD (fun x => x) (ei_tup (ev_var rfl)) (by omega) (fun _ h => h) fun d hd => ⟨_, tg_name, ev_callD d (ea_consD (ev_var rfl) ea_nil) ⟨by omega, B, hx d hd⟩⟩).toD (by rw [List.map_id']))) rfl
  · rw [hL] at hb; cases hb

theorem ok_Falls_init (T : Txt K mg) (F : FunD K "__init__" "Falls.__init__" (defArgs sFalls_init) (defBody sFalls_init) (defScope sFalls_init) [] [] f fd) (k_kept : Cal P w K mg base "kept" 21 ["thing"] (sp_kept K 21)) : FnOk P w K mg base CX0 22 f fd ["self", "room", "starts", "steps", "measure", "step", "top", "falls", "floors", "tops"] (sp_Falls_init K) := by
  refine init_ok F sc_Falls_init (fun _ => rfl) (fun cdv A' outer s H E hr => ⟨_, (pss_cons (ps_fld (pv 0) (pe_cal k_kept (hr.mono (by decide)) rfl (pa_cons (pv 1) pa_nil)) rfl)
      (pss_cons (ps_fld (pv 0) (pe_cal k_kept (hr.mono (by decide)) rfl (pa_cons (pv 2) pa_nil)) rfl)
      (pss_cons (ps_fld (pv 0) (pe_cal k_kept (hr.mono (by decide)) rfl (pa_cons (pv 3) pa_nil)) rfl)
      (pss_cons (ps_fld (pv 0) (pv 4) rfl)
      (pss_cons (ps_fld (pv 0) (pv 5) rfl)
      (pss_cons (ps_fld (pv 0) (pv 6) rfl)
      (pss_cons (ps_fld (pv 0) (pe_cal k_kept (hr.mono (by decide)) rfl (pa_cons (pv 7) pa_nil)) rfl)
      (pss_cons (ps_fld (pv 0) (pe_cal k_kept (hr.mono (by decide)) rfl (pa_cons (pv 8) pa_nil)) rfl)
      (pss_one (ps_fld (pv 0) (pe_cal k_kept (hr.mono (by decide)) rfl (pa_cons (pv 9) pa_nil)) rfl)))))))))), ?_⟩)
  rintro ⟨a1, a2, a3, a4, a5, a6, a7, a8, a9⟩ ⟨B, h1, h2, h3, h7, h8, h9⟩ x
  refine rq_fld rfl (by decide +kernel) (by decide) T.cl_Falls T.n_Falls_room (ev_callD (room a1) (ea_consD (ev_var rfl) ea_nil) ⟨by omega, B, h1⟩) fun d e => ?_
  obtain rfl : d = room a1 := e
  refine rq_fld rfl (by decide +kernel) (by decide) T.cl_Falls T.n_Falls_starts (ev_callD a2 (ea_consD (ev_var rfl) ea_nil) ⟨by omega, B, h2⟩) fun d e => ?_
  obtain rfl : d = a2 := e
  refine rq_fld rfl (by decide +kernel) (by decide) T.cl_Falls T.n_Falls_steps (ev_callD a3 (ea_consD (ev_var rfl) ea_nil) ⟨by omega, B, h3⟩) fun d e => ?_
  obtain rfl : d = a3 := e
  refine rq_fld rfl (by decide +kernel) (by decide) T.cl_Falls T.n_Falls_measure (ev_var rfl) fun d e => ?_
  obtain rfl : d = dt a4 := e
  refine rq_fld rfl (by decide +kernel) (by decide) T.cl_Falls T.n_Falls_step (ev_var rfl) fun d e => ?_
  obtain rfl : d = .int a5 := e
  refine rq_fld rfl (by decide +kernel) (by decide) T.cl_Falls T.n_Falls_top (ev_var rfl) fun d e => ?_
  obtain rfl : d = .int a6 := e
  refine rq_fld rfl (by decide +kernel) (by decide) T.cl_Falls T.n_Falls_falls (ev_callD a7 (ea_consD (ev_var rfl) ea_nil) ⟨by omega, B, h7⟩) fun d e => ?_
  obtain rfl : d = a7 := e
  refine rq_fld rfl (by decide +kernel) (by decide) T.cl_Falls T.n_Falls_floors (ev_callD a8 (ea_consD (ev_var rfl) ea_nil) ⟨by omega, B, h8⟩) fun d e => ?_
  obtain rfl : d = a8 := e
  refine r_fld rfl (by decide +kernel) (by decide) T.cl_Falls T.n_Falls_tops (ev_callD a9 (ea_consD (ev_var rfl) ea_nil) ⟨by omega, B, h9⟩) fun d e => ?_
  obtain rfl : d = a9 := e
  exact ⟨_, rfl, rfl, rfl⟩

end
end Tx
end
section
set_option Elab.async false
set_option linter.all false
set_option maxRecDepth 100000
set_option maxHeartbeats 4000000
set_option autoImplicit false
set_option exponentiation.threshold 100000
/-! Ra: fractions, plainly. -/
namespace Ra
open Tx Li
theorem num_le (n : Int) (d : Nat) : (mkRat n d).num.natAbs ≤ n.natAbs := by
  rw [Rat.num_mkRat]
  split
  · exact Nat.zero_le _
  · exact Int.natAbs_ediv_le_natAbs _ _
theorem den_le (n : Int) {d : Nat} (h : 0 < d) : (mkRat n d).den ≤ d := by
  rw [Rat.den_mkRat, if_neg (by omega)]
  exact Nat.div_le_self _ _
/-- q is told by a fraction over D with a numerator below 2 ^ B -/
def Sq (D B : Nat) (q : Rat) : Prop := ∃ a : Int, q = mkRat a D ∧ Bd B a
theorem Sq.num {D B : Nat} {q : Rat} (h : Sq D B q) : Bd B q.num := by
  obtain ⟨a, rfl, h⟩ := h
  exact Nat.lt_of_le_of_lt (num_le a D) h
theorem Sq.den {D B : Nat} {q : Rat} (h0 : 0 < D) (h : Sq D B q) : q.den ≤ D := by
  obtain ⟨a, rfl, h⟩ := h
  exact den_le a h0
theorem Sq.mono {D B C : Nat} {q : Rat} (h : Sq D B q) (l : B ≤ C) : Sq D C q := by
  obtain ⟨a, e, h⟩ := h
  exact ⟨a, e, h.mono l⟩
theorem mk_add {a b : Int} {D : Nat} (h0 : 0 < D) : mkRat a D + mkRat b D = mkRat (a + b) D := by
  rw [Rat.mkRat_add_mkRat _ _ (by omega) (by omega), ← Int.add_mul, Rat.mkRat_mul_right (by omega)]
theorem Sq.add {D B : Nat} {q r : Rat} (h0 : 0 < D) (h1 : Sq D B q) (h2 : Sq D B r) : Sq D (B + 1) (q + r) := by
  obtain ⟨a, rfl, h1⟩ := h1
  obtain ⟨b, rfl, h2⟩ := h2
  exact ⟨a + b, mk_add h0, h1.add h2⟩
theorem int_mk (n : Int) : (n : Rat) = mkRat n 1 := by rw [Rat.mkRat_one]
theorem int_mul (n a : Int) (D : Nat) : (n : Rat) * mkRat a D = mkRat (n * a) D := by
  rw [int_mk, Rat.mkRat_mul_mkRat, Nat.one_mul]
theorem Sq.mul {D B C : Nat} {n : Int} {q : Rat} (h1 : Bd C n) (h2 : Sq D B q) : Sq D (C + B) (n * q) := by
  obtain ⟨a, rfl, h2⟩ := h2
  exact ⟨n * a, int_mul n a D, h1.mul h2⟩
theorem Sq.scale {D B : Nat} {q : Rat} (k : Nat) (h0 : 0 < k) {c : Nat} (hk : k < 2 ^ c) (h : Sq D B q) : Sq (D * k) (B + c) q := by
  obtain ⟨a, rfl, h⟩ := h
  refine ⟨a * k, (Rat.mkRat_mul_right (by omega)).symm, h.mul ?_⟩
  show (k : Int).natAbs < 2 ^ c
  rw [Int.natAbs_natCast]; exact hk
theorem Sq.ofInt {B : Nat} {n : Int} (h : Bd B n) : Sq 1 B (n : Rat) := ⟨n, int_mk n, h⟩
theorem Sq.div {D B : Nat} {q : Rat} (d : Nat) (h0 : 0 < D) (hd : 0 < d) (h : Sq D B q) : Sq (D * d) B (q / (d : Rat)) := by
  obtain ⟨a, rfl, h⟩ := h
  refine ⟨a, ?_, h⟩
  rw [Rat.mkRat_eq_div, Rat.mkRat_eq_div]
  have h1 : (D : Rat) ≠ 0 := by
    intro c
    have : D = 0 := by exact_mod_cast c
    omega
  have h2 : (d : Rat) ≠ 0 := by
    intro c
    have : d = 0 := by exact_mod_cast c
    omega
  rw [Rat.natCast_mul]
  grind
theorem Sq.zero {D B : Nat} : Sq D B 0 := ⟨0, (Rat.zero_mkRat D).symm, Bd.zero⟩
/-- numbers along values -/
def dotQ : List Int → List Rat → Rat
  | n :: ns, q :: qs => n * q + dotQ ns qs
  | _, _ => 0
theorem dotQ_snoc : ∀ (ns : List Int) (qs : List Rat) (n : Int) (q : Rat), ns.length = qs.length → dotQ (ns ++ [n]) (qs ++ [q]) = dotQ ns qs + n * q
  | [], [], n, q, _ => by
    show n * q + dotQ [] [] = dotQ [] [] + n * q
    exact Rat.add_comm _ _
  | a :: ns, b :: qs, n, q, h => by
    show a * b + dotQ (ns ++ [n]) (qs ++ [q]) = a * b + dotQ ns qs + n * q
    rw [dotQ_snoc ns qs n q (Nat.succ.inj h), Rat.add_assoc]
theorem dotQ_min : ∀ (ns : List Int) (qs : List Rat), dotQ (ns.take (min ns.length qs.length)) (qs.take (min ns.length qs.length)) = dotQ ns qs
  | [], qs => by rw [List.length_nil, Nat.zero_min]; cases qs <;> rfl
  | n :: ns, [] => by rw [List.length_nil, Nat.min_zero] <;> rfl
  | n :: ns, q :: qs => by
    have := dotQ_min ns qs
    rw [List.length_cons, List.length_cons, Nat.add_min_add_right]
    show n * q + _ = n * q + _
    rw [this]
theorem dotQ_step {ns : List Int} {qs : List Rat} {k : Nat} {n : Int} {q : Rat} (h1 : ns[k]? = some n) (h2 : qs[k]? = some q) : dotQ (ns.take (k + 1)) (qs.take (k + 1)) = dotQ (ns.take k) (qs.take k) + n * q := by
  rw [take_snoc h1, take_snoc h2, dotQ_snoc]
  have l1 := (List.getElem?_eq_some_iff.mp h1).1
  have l2 := (List.getElem?_eq_some_iff.mp h2).1
  rw [List.length_take, List.length_take]; omega
theorem dotQ_sq {D B C : Nat} (h0 : 0 < D) : ∀ (ns : List Int) (qs : List Rat), (∀ n ∈ ns, Bd C n) → (∀ q ∈ qs, Sq D B q) → Sq D (C + B + ns.length) (dotQ ns qs)
  | [], _, _, _ => Sq.zero
  | n :: ns, [], _, _ => Sq.zero
  | n :: ns, q :: qs, h1, h2 => by
    have ih := dotQ_sq h0 ns qs (fun n hn => h1 n (List.mem_cons_of_mem _ hn)) fun q hq => h2 q (List.mem_cons_of_mem _ hq)
    have := Sq.add h0 (((h2 q List.mem_cons_self).mul (h1 n List.mem_cons_self)).mono (Nat.le_add_right _ ns.length)) ih
    exact this
/-- does the row hold at the point -/
def holdQ (r : List Int) (qs : List Rat) : Prop := dotQ r.dropLast qs ≤ r.getLastD 0
instance (r : List Int) (qs : List Rat) : Decidable (holdQ r qs) := by unfold holdQ; infer_instance
/-- the point behind a mode -/
def stepQ (n : Nat) (m : Md) (qs ws : List Rat) : List Rat := (List.range n).map fun i => (dotQ (m.nexts.getD i []) qs + dotQ (m.push.getD i []) ws + (m.add.getD i 0 : Int)) / (m.div : Rat)
theorem stepQ_len (n : Nat) (m : Md) (qs ws : List Rat) : (stepQ n m qs ws).length = n := by unfold stepQ; rw [List.length_map, List.length_range]
theorem mk_pair (n : Int) (q : Rat) : mkRat (n * q.num) q.den = n * q := by
  rw [← int_mul, Rat.mkRat_self]
theorem mk_plus (a c : Int) {b d : Nat} (hb : 0 < b) (hd : 0 < d) : mkRat (a * d + c * b) (b * d) = mkRat a b + mkRat c d := (Rat.mkRat_add_mkRat _ _ (by omega) (by omega)).symm
theorem mk_div (q : Rat) (d : Nat) (hd : 0 < d) : mkRat q.num (q.den * d) = q / (d : Rat) := by
  have h2 : (d : Rat) ≠ 0 := by
    intro c
    have : d = 0 := by exact_mod_cast c
    omega
  have h1 : (q.den : Rat) ≠ 0 := by
    intro c
    have := q.den_pos
    have : q.den = 0 := by exact_mod_cast c
    omega
  have e : q = (q.num : Rat) / (q.den : Rat) := by rw [← Rat.mkRat_eq_div, Rat.mkRat_self]
  have e2 : mkRat q.num (q.den * d) = (q.num : Rat) / ((q.den : Rat) * (d : Rat)) := by rw [Rat.mkRat_eq_div, Rat.natCast_mul]
  rw [e2]
  conv => rhs; rw [e]
  grind
theorem le_int (q : Rat) (i : Int) : q.num ≤ i * q.den ↔ q ≤ (i : Rat) := by
  rw [Rat.le_iff, Rat.num_intCast, Rat.den_intCast]
  show _ ↔ q.num * ((1 : Nat) : Int) ≤ _
  rw [Int.natCast_one, Int.mul_one]
end Ra
end
section
set_option Elab.async false
set_option linter.all false
set_option maxRecDepth 100000
set_option maxHeartbeats 4000000
set_option autoImplicit false
set_option exponentiation.threshold 100000
/-! Wd: promises of the law's small defs. -/
namespace Tx
open PySem L2 Kr Kt Li Ra
/-- a fraction as a pair -/
abbrev fq (a : Int) (b : Nat) : D := .tup [.int a, .int (b : Int)]
abbrev dq (q : Rat) : D := fq q.num q.den
abbrev dqs (qs : List Rat) : D := .lst (qs.map dq)
/-- a list or a tuple of ints -/
def sq (b : Bool) (ns : List Int) : D := if b then dt ns else dl ns
theorem sq_is (b : Bool) (ns : List Int) : IsSeq (sq b ns) (ns.map D.int) := by
  cases b
  · exact .inl rfl
  · exact .inr rfl
section
variable (K : PySem.W.Frag)
abbrev sp__law_cell_at : Sp := spF K (fun a : List Int × Nat => [.scr a.1, .int a.2]) (fun _ => True) (fun a r => r = .int (a.1.getD a.2 0))
abbrev sp__law_stream : Sp := spF K (fun a : Int × Nat => [.int a.1, .int a.2]) (fun a => a.2 ≤ 100) (fun a r => ∃ xs : List Int, r = dl xs ∧ xs.length = a.2 ∧ ∀ x ∈ xs, 0 ≤ x ∧ Bd 150 x)
abbrev sp__law_divisor : Sp := spF K (fun a : Int × Int => [.int a.1, .int a.2]) (fun a => 0 ≤ a.2) (fun a r => r = .int (Int.gcd a.1 a.2 : Nat))
abbrev sp__law_lowest : Sp := spF K (fun a : Int × Nat => [.int a.1, .int a.2]) (fun a => 0 < a.2 ∧ a.2 < 2 ^ 8000) (fun a r => r = dq (mkRat a.1 a.2))
abbrev sp__law_plus : Sp := spF K (fun a : Int × Nat × Int × Nat => [fq a.1 a.2.1, fq a.2.2.1 a.2.2.2]) (fun a => 0 < a.2.1 ∧ 0 < a.2.2.2 ∧ a.2.1 < 2 ^ 3000 ∧ a.2.2.2 < 2 ^ 3000 ∧ Bd 400000 a.1 ∧ Bd 400000 a.2.2.1) (fun a r => r = dq (mkRat a.1 a.2.1 + mkRat a.2.2.1 a.2.2.2))
abbrev sp__law_along : Sp := spF K (fun a : Bool × List Int × List Rat => [sq a.1 a.2.1, dqs a.2.2]) (fun a => a.2.1.length ≤ 10 ∧ (∀ n ∈ a.2.1, Bd 1000 n) ∧ ∃ D, 0 < D ∧ D < 2 ^ 1000 ∧ ∀ q ∈ a.2.2, Sq D 40000 q) (fun a r => r = dq (dotQ a.2.1 a.2.2))
abbrev sp__law_holds : Sp := spF K (fun a : List Int × List Rat => [dt a.1, dqs a.2]) (fun a => a.1 ≠ [] ∧ a.1.length ≤ 10 ∧ (∀ n ∈ a.1, Bd 1000 n) ∧ ∃ D, 0 < D ∧ D < 2 ^ 1000 ∧ ∀ q ∈ a.2, Sq D 40000 q) (fun a r => r = .bl (decide (holdQ a.1 a.2)))
abbrev sp__law_lies : Sp := spF K (fun a : List (List Int) × List Rat => [room a.1, dqs a.2]) (fun a => a.1.length ≤ 1000 ∧ (∀ r ∈ a.1, r ≠ [] ∧ r.length ≤ 10 ∧ ∀ n ∈ r, Bd 1000 n) ∧ ∃ D, 0 < D ∧ D < 2 ^ 1000 ∧ ∀ q ∈ a.2, Sq D 40000 q) (fun a r => r = .bl (decide (∀ r ∈ a.1, holdQ r a.2)))
abbrev sp__law_number : Sp := spF K (fun a : Int × Nat => [.int a.1, .int a.2]) (fun a => a.2 ≤ 100) (fun a r => ∃ i : Int, r = .int i ∧ i.natAbs ≤ a.2)
end
theorem Bd.log {a : Nat} {x : Int} (h0 : 0 < a) (h : Bd a x) : x.natAbs.log2 < a := by
  by_cases c : x.natAbs = 0
  · rw [c]; exact h0
  · exact (Nat.log2_lt c).mpr h
theorem Bd.nat {a n : Nat} (h : n < 2 ^ a) : Bd a (n : Int) := by
  unfold Bd; rw [Int.natAbs_natCast]; exact h
theorem cut_dropI (xs : List D) (k : Nat) : cutL xs (some (k : Int)) none = xs.drop k := cut_drop xs k
theorem Bd.of_le {a : Nat} {x y : Int} (h : Bd a y) (h1 : 0 ≤ x) (h2 : x ≤ y) : Bd a x := by
  unfold Bd at *; omega
theorem mod_b {x : Int} {m : Int} {a : Nat} (h : Bd a m) (h0 : 0 < m) : 0 ≤ x % m ∧ Bd a (x % m) :=
  ⟨Int.emod_nonneg _ (by omega), Bd.of_le h (Int.emod_nonneg _ (by omega)) (Int.le_of_lt (Int.emod_lt_of_pos _ h0))⟩
/-- an item of a list, at a place within -/
theorem at_in {α : Type} {xs : List α} {k : Int} (h0 : 0 ≤ k) (h1 : k < xs.length) : ∃ x, L2.atI xs k = some x ∧ x ∈ xs ∧ xs[k.toNat]? = some x := by
  obtain ⟨x, hx, hm⟩ := get_ex (r := xs) (k := k.toNat) (by omega)
  refine ⟨x, ?_, hm, hx⟩
  have := at_nat hx
  rw [Int.toNat_of_nonneg h0] at this
  exact this
theorem and_true_of {b c : Bool} (h : (b && c) = true) : b = true ∧ c = true := by cases b <;> cases c <;> first | exact ⟨rfl, rfl⟩ | cases h
end Tx
end
section
set_option Elab.async false
set_option linter.all false
set_option maxRecDepth 100000
set_option maxHeartbeats 4000000
set_option autoImplicit false
set_option exponentiation.threshold 100000
/-! W6: streams and fractions of the law. -/
namespace Tx
open PySem L2 Kr Kt Li Ra
abbrev M45 : Int := 10 ^ (45 : Int).toNat
abbrev M18 : Int := 10 ^ (18 : Int).toNat + 9
theorem m45 : 0 < M45 ∧ Bd 150 M45 := by unfold Bd; decide +kernel
theorem m18 : 0 < M18 ∧ Bd 61 M18 := by unfold Bd; decide +kernel
theorem cp30 : CPow 10 30 := by unfold CPow; decide +kernel
theorem cp45 : CPow 10 45 := by unfold CPow; decide +kernel
theorem cp18 : CPow 10 18 := by unfold CPow; decide +kernel
theorem b48271 : Bd 61 48271 := by unfold Bd; decide +kernel
section
variable {P : Program} {w : World} {K : PySem.W.Frag} {mg : Str → Option Value} {base : Heap} {f : Addr} {fd : FuncData}
theorem ok__law_cell_at (T : Txt K mg) (F : FunD K "_law_cell_at" "_law_cell_at" (defArgs s_law_cell_at) (defBody s_law_cell_at) (defScope s_law_cell_at) [] [] f fd)  : FnOk P w K mg base CX0 1 f fd ["_law_script", "_law_k"] (sp__law_cell_at K) := by
  refine fn_ok F sc__law_cell_at (fun _ => rfl) (fun cdv A' outer s H E hr => ⟨_, (pss_cons (ps_if (pt_cmpR op_lt (pv 1) (pe_callB (len_K (K := K) rfl) rfl T.m_len bt_len (pa_cons (pv 0) pa_nil)) (nomark _)) (pss_one (ps_ret (pe_ix (ix_K (K := K) rfl) (pv 0) (pv 1) (fun _ _ => rfl)))) pss_nil)
      (pss_one (ps_ret pe_int))), ?_⟩)
  rintro ⟨ns, k⟩ _
  refine rq_if (etD (ev_lt (ev_var rfl) (ev_lenS (ev_var rfl)))) (fun z => ?_) (fun z => r_next ?_)
  · have z : (k : Int) < ns.length := of_decide_eq_true z.symm
    obtain ⟨x, hx, _⟩ := get_ex (r := ns) (k := k) (by omega)
    refine r_retD (ev_ixS (at_nat hx) (ev_var rfl) (ev_var rfl)) ?_
    show D.int x = D.int (ns.getD k 0)
    rw [getD_some hx]
  · have z : ¬ (k : Int) < ns.length := of_decide_eq_false z.symm
    refine r_retD ev_int ?_
    show D.int 0 = D.int (ns.getD k 0)
    rw [List.getD_eq_getElem?_getD, List.getElem?_eq_none (by omega)] <;> rfl

theorem ok__law_stream (T : Txt K mg) (F : FunD K "_law_stream" "_law_stream" (defArgs s_law_stream) (defBody s_law_stream) (defScope s_law_stream) [] [] f fd)  : FnOk P w K mg base CX0 1 f fd ["_law_cell", "_law_many"] (sp__law_stream K) := by
  refine fn_ok F sc__law_stream (fun _ => rfl) (fun cdv A' outer s H E hr => ⟨_, (pss_cons (ps_set (i := 2) sc__law_stream.nd rfl (Or.inl rfl) (pe_lst pa_nil))
      (pss_cons (ps_if (pt_cmpR op_ge (pv 0) (pe_op op_pow pe_int pe_int) (nomark _)) (pss_cons (ps_set (i := 5) sc__law_stream.nd rfl (Or.inl rfl) (pe_op op_sub (pv 0) (pe_op op_pow pe_int pe_int)))
      (pss_cons (ps_for PassesOwn.never rfl (pi_range1 rfl T.m_range (pa_cons (pv 1) pa_nil)) (pg_name (i := 4) sc__law_stream.nd rfl (Or.inl rfl)) (pss_cons (ps_expr (pe_bm PySem.F.plainAttrs_list PySem.F.slot_list_append PySem.F.type_list_append mt_append (pv 2) (pa_cons (pe_op op_mod (pv 5) (pe_op op_pow pe_int pe_int)) pa_nil)))
      (pss_one (ps_set (i := 5) sc__law_stream.nd rfl (Or.inl rfl) (pe_op op_fdivW (pv 5) (pe_op op_pow pe_int pe_int))))))
      (pss_one (ps_ret (pv 2))))) pss_nil)
      (pss_cons (ps_set (i := 3) sc__law_stream.nd rfl (Or.inl rfl) (pe_op (add_K (K := K) rfl) (pe_op op_mod (pv 0) (pe_op (add_K (K := K) rfl) (pe_op op_pow pe_int pe_int) pe_int)) pe_int))
      (pss_cons (ps_for PassesOwn.never rfl (pi_range1 rfl T.m_range (pa_cons (pe_op (add_K (K := K) rfl) (pv 1) pe_int) pa_nil)) (pg_name (i := 4) sc__law_stream.nd rfl (Or.inl rfl)) (pss_cons (ps_set (i := 3) sc__law_stream.nd rfl (Or.inl rfl) (pe_op op_mod (pe_op (add_K (K := K) rfl) (pe_op (add_K (K := K) rfl) (pe_op (mul_K (K := K) rfl) (pv 3) (pv 3)) (pe_op (mul_K (K := K) rfl) pe_int (pv 3))) (pv 4)) (pe_op (add_K (K := K) rfl) (pe_op op_pow pe_int pe_int) pe_int)))
      (pss_one (ps_expr (pe_bm PySem.F.plainAttrs_list PySem.F.slot_list_append PySem.F.type_list_append mt_append (pv 2) (pa_cons (pv 3) pa_nil))))))
      (pss_one (ps_ret (pe_slice (sl_K (K := K) rfl) (pv 2) (po_some pe_int) po_none))))))), ?_⟩)
  rintro ⟨c, m⟩ hm
  have hm : m ≤ 100 := hm
  refine rq_ownD ev_nil fun a => ?_
  refine rq_if (etD (ev_ge (ev_var rfl) (ev_pow cp30 ev_int ev_int))) (fun _ => ?_) (fun _ => r_next ?_)
  · refine rq_setD (ev_sub (ev_var rfl) (ev_pow cp30 ev_int ev_int)) ?_
    refine rq_forD (ei_range (n := m) (by omega) (by omega) (ev_var rfl)) (fun k ρ => ∃ (x3 x4 : Option Sl) (y : Int) (xs : List Int), ρ = [some (.p (.int c)), some (.p (.int m)), some (.o a (xs.map D.int)), x3, x4, some (.p (.int y))] ∧ xs.length = k ∧ ∀ x ∈ xs, 0 ≤ x ∧ Bd 150 x) ⟨none, none, _, [], rfl, rfl, fun x hx => nomatch hx⟩ ?_ ?_
    · rintro k d ρ1 hd ⟨x3, x4, y, xs, rfl, hl, hx⟩
      obtain ⟨hk, rfl⟩ := rangeD_get hd
      refine ⟨_, _, tg_name, rq_app (i := 2) rfl (by rw [List.length_map]; omega) (ev_mod m45.1 (ev_var rfl) (ev_pow cp45 ev_int ev_int)) fun d e => ?_⟩
      subst e
      refine r_set (ev_div m45.1 (Nat.lt_of_lt_of_le (m45.2.log (by decide)) (by decide)) (ev_var rfl) (ev_pow cp45 ev_int ev_int)) fun d e => ?_
      subst e
      refine ⟨_, _, _, xs ++ [y % M45], by rw [List.map_append] <;> rfl, by rw [List.length_append, hl] <;> rfl, fun x h => ?_⟩
      rcases List.mem_append.mp h with h | h
      · exact hx x h
      · rw [List.mem_singleton.mp h]
        exact mod_b m45.2 m45.1
    · rintro ρ1 ⟨x3, x4, y, xs, rfl, hl, hx⟩
      rw [rangeD_len, Int.toNat_natCast] at hl
      exact r_retO (i := 2) rfl ⟨xs, rfl, hl, hx⟩
  · have h0 : 0 ≤ c % M18 + 48271 ∧ Bd 62 (c % M18 + 48271) := ⟨by have := (mod_b (x := c) m18.2 m18.1).1; omega, (mod_b (x := c) m18.2 m18.1).2.add b48271⟩
    refine rq_setD (ev_add (ev_mod m18.1 (ev_var rfl) (ev_add (ev_pow cp18 ev_int ev_int) ev_int)) ev_int) ?_
    refine rq_forD (ei_range (n := (m : Int) + 2) (by omega) (by omega) (ev_add (ev_var rfl) ev_int)) (fun k ρ => ∃ (x4 x5 : Option Sl) (y : Int) (xs : List Int), ρ = [some (.p (.int c)), some (.p (.int m)), some (.o a (xs.map D.int)), some (.p (.int y)), x4, x5] ∧ (0 ≤ y ∧ Bd 62 y) ∧ xs.length = k ∧ ∀ x ∈ xs, 0 ≤ x ∧ Bd 150 x) ⟨none, none, _, [], rfl, h0, rfl, fun x hx => nomatch hx⟩ ?_ ?_
    · rintro k d ρ1 hd ⟨x4, x5, y, xs, rfl, hy, hl, hx⟩
      obtain ⟨hk, rfl⟩ := rangeD_get hd
      refine ⟨_, _, tg_name, rq_setD (ev_mod m18.1 (ev_add (ev_add (ev_mul hy.2 hy.2 (by decide) (by decide) (by decide) (ev_var rfl) (ev_var rfl)) (ev_mul (b48271.mono (show 61 ≤ 62 by decide)) hy.2 (by decide) (by decide) (by decide) ev_int (ev_var rfl))) (ev_var rfl)) (ev_add (ev_pow cp18 ev_int ev_int) ev_int)) ?_⟩
      refine r_app (i := 2) rfl (by rw [List.length_map]; omega) (ev_var rfl) fun d e => ?_
      subst e
      have hz := mod_b (x := y * y + 48271 * y + k) m18.2 m18.1
      refine ⟨_, _, _, xs ++ [(y * y + 48271 * y + k) % M18], by rw [List.map_append] <;> rfl, ⟨hz.1, hz.2.mono (by decide)⟩, by rw [List.length_append, hl] <;> rfl, fun x h => ?_⟩
      rcases List.mem_append.mp h with h | h
      · exact hx x h
      · rw [List.mem_singleton.mp h]
        exact ⟨hz.1, hz.2.mono (by decide)⟩
    · rintro ρ1 ⟨x4, x5, y, xs, rfl, hy, hl, hx⟩
      rw [rangeD_len] at hl
      have hl : xs.length = m + 2 := by omega
      refine r_freeze (i := 2) rfl (r_retD (ev_slL (ev_var rfl) (eo_some ev_int) eo_none).toD ⟨xs.drop 2, ?_, by rw [List.length_drop, hl]; omega, fun x h => hx x (List.mem_of_mem_drop h)⟩)
      have := cut_drop (xs.map D.int) 2
      show D.lst _ = D.lst _
      rw [List.map_drop]
      exact congrArg D.lst this

theorem ok__law_divisor (T : Txt K mg) (F : FunD K "_law_divisor" "_law_divisor" (defArgs s_law_divisor) (defBody s_law_divisor) (defScope s_law_divisor) [] [] f fd)  : FnOk P w K mg base CX0 1 f fd ["_law_one", "_law_other_here"] (sp__law_divisor K) := by
  refine fn_ok F sc__law_divisor (fun _ => rfl) (fun cdv A' outer s H E hr => ⟨_, (pss_cons (ps_while PassesOwn.never (pt_cmpR (ne_K (K := K) rfl hr.units) (pv 1) pe_int (nomark _)) (pss_one (ps_par (i := 0) (j := 1) rfl sc__law_divisor.nd rfl rfl (by decide) rfl rfl (pa_cons (pv 1) (pa_cons (pe_op op_mod (pv 0) (pv 1)) pa_nil)) (by rfl))))
      (pss_one (ps_ret (pe_callB call_abs rfl T.m_abs bt_abs (pa_cons (pv 0) pa_nil))))), ?_⟩)
  rintro ⟨a, b⟩ hb
  have hb : 0 ≤ b := hb
  refine rq_while (fun m ρ => ∃ x y : Int, ρ = [some (.p (.int x)), some (.p (.int y))] ∧ 0 ≤ y ∧ m = y.toNat ∧ Int.gcd x y = Int.gcd a b) b.toNat ⟨a, b, rfl, hb, rfl, rfl⟩ ?_
  rintro m ρ1 ⟨x, y, rfl, hy, rfl, hg⟩
  refine ⟨_, etD (ev_neI (ev_var rfl) ev_int), fun z => ?_, fun z => ?_⟩
  · have z : y ≠ 0 := by
      have z : true = !decide (y = 0) := z
      intro c
      rw [decide_eq_true c] at z; cases z
    have yp : 0 < y := by omega
    refine r_par (ea_consD (ev_var rfl) (ea_consD (ev_mod yp (ev_var rfl) (ev_var rfl)) ea_nil)) ⟨(x % y).toNat, ?_, y, x % y, rfl, Int.emod_nonneg _ (by omega), rfl, ?_⟩
    · have h1 := Int.emod_lt_of_pos x yp
      have h2 := Int.emod_nonneg x (show y ≠ 0 by omega)
      omega
    · rw [← hg, Int.gcd_comm x y]
      rw [Int.emod_def, Int.sub_eq_add_neg, ← Int.mul_neg]
      exact Int.gcd_add_mul_left_right ..
  · have z : y = 0 := by
      have z : false = !decide (y = 0) := z
      by_cases c : y = 0
      · exact c
      · rw [decide_eq_false c] at z; cases z
    subst z
    refine r_retD (ev_abs (ev_var rfl)) ?_
    show D.int _ = D.int _
    rw [← hg, Int.gcd_zero_right]

theorem ok__law_lowest (T : Txt K mg) (F : FunD K "_law_lowest" "_law_lowest" (defArgs s_law_lowest) (defBody s_law_lowest) (defScope s_law_lowest) [] [] f fd) (k__law_divisor : Cal P w K mg base "_law_divisor" 1 ["_law_one", "_law_other_here"] (sp__law_divisor K)) : FnOk P w K mg base CX0 2 f fd ["_law_top_here", "_law_bottom"] (sp__law_lowest K) := by
  refine fn_ok F sc__law_lowest (fun _ => rfl) (fun cdv A' outer s H E hr => ⟨_, (pss_cons (ps_set (i := 2) sc__law_lowest.nd rfl (Or.inl rfl) (pe_cal k__law_divisor (hr.mono (by decide)) rfl (pa_cons (pv 0) (pa_cons (pv 1) pa_nil))))
      (pss_one (ps_ret (pe_tup (pa_cons (pe_op op_fdivW (pv 0) (pv 2)) (pa_cons (pe_op op_fdivW (pv 1) (pv 2)) pa_nil)))))), ?_⟩)
  rintro ⟨t, b⟩ ⟨h0, h1⟩
  have h0 : 0 < b := h0
  have h1 : b < 2 ^ 8000 := h1
  have e : Int.gcd t b = b.gcd t.natAbs := by rw [Int.gcd_comm]; rfl
  have gp : 0 < Int.gcd t b := by rw [e]; exact Nat.gcd_pos_of_pos_left _ h0
  have gl : Int.gcd t b < 2 ^ 8000 := by rw [e]; exact Nat.lt_of_le_of_lt (Nat.gcd_le_left _ h0) h1
  have lg : (Int.gcd t b : Int).natAbs.log2 < 9000 := Nat.lt_of_lt_of_le ((Bd.nat gl).log (by decide)) (by decide)
  refine rq_setD (ev_callD (t, (b : Int)) (ea_consD (ev_var rfl) (ea_consD (ev_var rfl) ea_nil)) (Int.natCast_nonneg b)) ?_
  refine r_retD (ev_tup (ea_consD (ev_div (by omega) lg (ev_var rfl) (ev_var rfl)) (ea_consD (ev_div (by omega) lg (ev_var rfl) (ev_var rfl)) ea_nil)) (by show 2 ≤ 100000; decide)) ?_
  show D.tup [.int (t / (Int.gcd t b : Nat)), .int ((b : Int) / (Int.gcd t b : Nat))] = D.tup [.int _, .int _]
  rw [Rat.num_mkRat, Rat.den_mkRat, if_neg (by omega), if_neg (by omega), e] <;> rfl

theorem ok__law_plus (T : Txt K mg) (F : FunD K "_law_plus" "_law_plus" (defArgs s_law_plus) (defBody s_law_plus) (defScope s_law_plus) [] [] f fd) (k__law_lowest : Cal P w K mg base "_law_lowest" 2 ["_law_top_here", "_law_bottom"] (sp__law_lowest K)) : FnOk P w K mg base CX0 3 f fd ["_law_one", "_law_other_here"] (sp__law_plus K) := by
  refine fn_ok F sc__law_plus (fun _ => rfl) (fun cdv A' outer s H E hr => ⟨_, (pss_one (ps_ret (pe_cal k__law_lowest (hr.mono (by decide)) rfl (pa_cons (pe_op (add_K (K := K) rfl) (pe_op (mul_K (K := K) rfl) (pe_ix (ix_K (K := K) rfl) (pv 0) pe_int (fun _ _ => rfl)) (pe_ix (ix_K (K := K) rfl) (pv 1) pe_int (fun _ _ => rfl))) (pe_op (mul_K (K := K) rfl) (pe_ix (ix_K (K := K) rfl) (pv 1) pe_int (fun _ _ => rfl)) (pe_ix (ix_K (K := K) rfl) (pv 0) pe_int (fun _ _ => rfl)))) (pa_cons (pe_op (mul_K (K := K) rfl) (pe_ix (ix_K (K := K) rfl) (pv 0) pe_int (fun _ _ => rfl)) (pe_ix (ix_K (K := K) rfl) (pv 1) pe_int (fun _ _ => rfl))) pa_nil))))), ?_⟩)
  rintro ⟨a, b, c, d⟩ ⟨h1, h2, h3, h4, h5, h6⟩
  have h1 : 0 < b := h1
  have h2 : 0 < d := h2
  have h3 : b < 2 ^ 3000 := h3
  have h4 : d < 2 ^ 3000 := h4
  have bb : Bd 3000 (b : Int) := Bd.nat h3
  have bd : Bd 3000 (d : Int) := Bd.nat h4
  have hp : b * d < 2 ^ 8000 := by
    calc b * d < 2 ^ 3000 * 2 ^ 3000 := Nat.mul_lt_mul'' h3 h4
      _ ≤ 2 ^ 8000 := by rw [← Nat.pow_add]; exact Nat.pow_le_pow_right (by decide) (by decide)
  refine r_retD (ev_callD (a * d + c * b, b * d) (ea_consD (ev_add (ev_mul h5 bd (by decide) (by decide) (by decide) (ev_ixT rfl (ev_var rfl) ev_int) (ev_ixT rfl (ev_var rfl) ev_int)) (ev_mul h6 bb (by decide) (by decide) (by decide) (ev_ixT rfl (ev_var rfl) ev_int) (ev_ixT rfl (ev_var rfl) ev_int))) (ea_consD (ev_is (ev_mul bb bd (by decide) (by decide) (by decide) (ev_ixT rfl (ev_var rfl) ev_int) (ev_ixT rfl (ev_var rfl) ev_int)) ?_) ea_nil)) ⟨Nat.mul_pos h1 h2, hp⟩) ?_
  · show D.int ((b : Int) * d) = D.int ((b * d : Nat) : Int)
    rw [Int.natCast_mul]
  · show dq (mkRat (a * d + c * b) (b * d)) = dq _
    rw [mk_plus a c h1 h2]

theorem ok__law_along (T : Txt K mg) (F : FunD K "_law_along" "_law_along" (defArgs s_law_along) (defBody s_law_along) (defScope s_law_along) [] [] f fd) (k__law_plus : Cal P w K mg base "_law_plus" 3 ["_law_one", "_law_other_here"] (sp__law_plus K)) : FnOk P w K mg base CX0 4 f fd ["_law_numbers", "_law_values"] (sp__law_along K) := by
  refine fn_ok F sc__law_along (fun _ => rfl) (fun cdv A' outer s H E hr => ⟨_, (pss_cons (ps_set (i := 2) sc__law_along.nd rfl (Or.inl rfl) (pe_tup (pa_cons pe_int (pa_cons pe_int pa_nil))))
      (pss_cons (ps_for PassesOwn.never rfl (zip_K (K := K) rfl rfl T.m_zip (pa_cons (pv 0) (pa_cons (pv 1) pa_nil))) (tup_K (K := K) (n := 2) rfl rfl (pgs_cons (pg_name (i := 3) sc__law_along.nd rfl (Or.inl rfl)) (pgs_cons (pg_name (i := 4) sc__law_along.nd rfl (Or.inl rfl)) pgs_nil))) (pss_one (ps_set (i := 2) sc__law_along.nd rfl (Or.inl rfl) (pe_cal k__law_plus (hr.mono (by decide)) rfl (pa_cons (pv 2) (pa_cons (pe_tup (pa_cons (pe_op (mul_K (K := K) rfl) (pv 3) (pe_ix (ix_K (K := K) rfl) (pv 4) pe_int (fun _ _ => rfl))) (pa_cons (pe_ix (ix_K (K := K) rfl) (pv 4) pe_int (fun _ _ => rfl)) pa_nil))) pa_nil))))))
      (pss_one (ps_ret (pv 2))))), ?_⟩)
  rintro ⟨s, ns, qs⟩ ⟨h1, h2, M, hM, hM2, h3⟩
  have h1 : ns.length ≤ 10 := h1
  refine rq_setD (d := dq 0) (ev_tup (ds := [.int 0, .int 1]) (ea_consD ev_int (ea_consD ev_int ea_nil)) (by decide)) ?_
  refine rq_forD (ei_zip (sq_is s ns) (.inl rfl) (ev_var rfl) (ev_var rfl)) (fun k ρ => ∃ x3 x4 : Option Sl, ρ = [some (.p (sq s ns)), some (.p (dqs qs)), some (.p (dq (dotQ (ns.take k) (qs.take k)))), x3, x4]) ⟨none, none, rfl⟩ ?_ ?_
  · rintro k d ρ1 hd ⟨x3, x4, rfl⟩
    obtain ⟨x, y, hx, hy, rfl⟩ := zipD_get hd
    obtain ⟨n, hn, rfl⟩ := map_get hx
    obtain ⟨q, hq, rfl⟩ := map_get hy
    have bn := h2 n (mem_at hn)
    have sqq := h3 q (mem_at hq)
    have acc : Sq M 41100 (dotQ (ns.take k) (qs.take k)) := (dotQ_sq hM (C := 1000) (B := 40000) _ _ (fun n hn => h2 n (List.mem_of_mem_take hn)) fun q hq => h3 q (List.mem_of_mem_take hq)).mono (by rw [List.length_take]; omega)
    have md : M < 2 ^ 3000 := Nat.lt_of_lt_of_le hM2 (Nat.pow_le_pow_right (by decide) (by decide))
    refine ⟨_, _, tg_tup rfl (tgs_cons tg_name (tgs_cons tg_name tgs_nil)), ?_⟩
    refine r_set (ev_callD ((dotQ (ns.take k) (qs.take k)).num, (dotQ (ns.take k) (qs.take k)).den, n * q.num, q.den) (ea_consD (ev_var rfl) (ea_consD (ev_tup (ds := [.int (n * q.num), .int (q.den : Int)]) (ea_consD (ev_mul (bn.mono (show 1000 ≤ 50000 by decide)) (sqq.num) (by decide) (by decide) (by decide) (ev_var rfl) (ev_ixT rfl (ev_var rfl) ev_int)) (ea_consD (ev_ixT rfl (ev_var rfl) ev_int) ea_nil)) (by show 2 ≤ 100000; decide)) ea_nil)) ⟨Rat.den_pos _, Rat.den_pos _, Nat.lt_of_le_of_lt (acc.den hM) md, Nat.lt_of_le_of_lt (sqq.den hM) md, acc.num.mono (by decide), (bn.mul sqq.num).mono (by decide)⟩) fun d e => ?_
    have e : d = dq (dotQ (ns.take (k + 1)) (qs.take (k + 1))) := by
      rw [dotQ_step hn hq, ← mk_pair n q]
      conv => rhs; rw [← Rat.mkRat_self (dotQ (ns.take k) (qs.take k))]
      exact e
    subst e
    exact ⟨_, _, rfl⟩
  · rintro ρ1 ⟨x3, x4, rfl⟩
    refine r_retD (ev_var rfl) ?_
    rw [zipD_len, List.length_map, List.length_map, dotQ_min] <;> rfl

theorem ok__law_holds (T : Txt K mg) (F : FunD K "_law_holds" "_law_holds" (defArgs s_law_holds) (defBody s_law_holds) (defScope s_law_holds) [] [] f fd) (k__law_along : Cal P w K mg base "_law_along" 4 ["_law_numbers", "_law_values"] (sp__law_along K)) : FnOk P w K mg base CX0 5 f fd ["_law_row", "_law_point_here"] (sp__law_holds K) := by
  refine fn_ok F sc__law_holds (fun _ => rfl) (fun cdv A' outer s H E hr => ⟨_, (pss_cons (ps_set (i := 2) sc__law_holds.nd rfl (Or.inl rfl) (pe_cal k__law_along (hr.mono (by decide)) rfl (pa_cons (pe_slice (sl_K (K := K) rfl) (pv 0) po_none (po_some (pe_un un_neg pe_int))) (pa_cons (pv 1) pa_nil))))
      (pss_one (ps_ret (pe_cmpR op_le (pe_ix (ix_K (K := K) rfl) (pv 2) pe_int (fun _ _ => rfl)) (pe_op (mul_K (K := K) rfl) (pe_ix (ix_K (K := K) rfl) (pv 0) (pe_un un_neg pe_int) (fun _ _ => rfl)) (pe_ix (ix_K (K := K) rfl) (pv 2) pe_int (fun _ _ => rfl))) (nomark _))))), ?_⟩)
  rintro ⟨r, qs⟩ ⟨hn, h1, h2, M, hM, hM2, h3⟩
  have h1 : r.length ≤ 10 := h1
  have hn : r ≠ [] := hn
  have sd : Sq M 41100 (dotQ r.dropLast qs) := (dotQ_sq hM (C := 1000) (B := 40000) _ _ (fun n hn => h2 n (mem_dl hn)) h3).mono (by rw [List.length_dropLast]; omega)
  refine rq_setD (d := dq (dotQ r.dropLast qs)) (ev_callD (true, r.dropLast, qs) (ea_consD (ev_lastT (ev_var rfl) (ev_neg ev_int)) (ea_consD (ev_var rfl) ea_nil)) ⟨by show r.dropLast.length ≤ 10; rw [List.length_dropLast]; omega, fun n hn => h2 n (mem_dl hn), M, hM, hM2, h3⟩) ?_
  refine r_retD (ev_le (ev_ixT rfl (ev_var rfl) ev_int) (ev_mul (h2 _ (last_mem hn)) (Bd.nat (Nat.lt_of_le_of_lt (sd.den hM) hM2)) (by decide) (by decide) (by decide) (ev_ixT (at_lastI hn) (ev_var rfl) (ev_neg ev_int)) (ev_ixT rfl (ev_var rfl) ev_int))) ?_
  show D.bl _ = D.bl _
  congr 1
  exact decide_eq_decide.mpr (le_int (dotQ r.dropLast qs) (r.getLastD 0))

theorem ok__law_lies (T : Txt K mg) (F : FunD K "_law_lies" "_law_lies" (defArgs s_law_lies) (defBody s_law_lies) (defScope s_law_lies) [] [] f fd) (k__law_holds : Cal P w K mg base "_law_holds" 5 ["_law_row", "_law_point_here"] (sp__law_holds K)) : FnOk P w K mg base CX0 6 f fd ["_law_room", "_law_point_here"] (sp__law_lies K) := by
  refine fn_ok F sc__law_lies (fun _ => rfl) (fun cdv A' outer s H E hr => ⟨_, (pss_one (ps_ret (pe_callB (all_K (K := K) rfl rfl) rfl T.m_all bt_all (pa_cons (pe_lc (own := [("_law_row", 2)]) rfl sc__law_lies.nd (seq_K (K := K) rfl (pv 0)) (blkOk_by (by kernel_rfl)) (fun _ _ _ _ _ => (pg_name (i := 2) sc__law_lies.nd rfl (Or.inl rfl))) (fun _ _ _ _ _ => pts_nil) (fun _ _ _ _ _ => (pe_cal k__law_holds (hr.mono (by decide)) rfl (pa_cons (pv 2) (pa_cons (pv 1) pa_nil))))) pa_nil)))), ?_⟩)
  rintro ⟨rs, qs⟩ ⟨h1, h2, M, hM, hM2, h3⟩
  have h1 : rs.length ≤ 1000 := h1
  refine r_retD (ev_all (f := fun d => match d with | .tup xs => decide (holdQ (xs.map fun d => match d with | .int i => i | _ => 0) qs) | _ => false) (ei_lst (ev_var rfl)) (by rw [List.length_map]; omega) (fun _ h => h) fun d hd => ?_) ?_
  · obtain ⟨r, hr, rfl⟩ := List.mem_map.mp hd
    obtain ⟨a, b, c⟩ := h2 r hr
    refine ⟨_, tg_name, ev_is (ev_callD (r, qs) (ea_consD (ev_var rfl) (ea_consD (ev_var rfl) ea_nil)) ⟨a, b, c, M, hM, hM2, h3⟩) ?_⟩
    show D.bl _ = D.bl (decide (holdQ ((r.map D.int).map _) qs))
    rw [List.map_map, show (r.map ((fun d => match d with | .int i => i | _ => 0) ∘ D.int)) = r from List.map_id r]
  · show D.bl _ = D.bl _
    congr 1
    rw [List.all_map, Bool.eq_iff_iff, List.all_eq_true]
    simp only [Function.comp_apply, decide_eq_true_eq]
    refine forall_congr' fun r => forall_congr' fun hr => ?_
    rw [List.map_map, show (r.map ((fun d => match d with | .int i => i | _ => 0) ∘ D.int)) = r from List.map_id r]

theorem ok__law_number (T : Txt K mg) (F : FunD K "_law_number" "_law_number" (defArgs s_law_number) (defBody s_law_number) (defScope s_law_number) [] [] f fd)  : FnOk P w K mg base CX0 1 f fd ["_law_x", "_law_far"] (sp__law_number K) := by
  refine fn_ok F sc__law_number (fun _ => rfl) (fun cdv A' outer s H E hr => ⟨_, (pss_one (ps_ret (pe_op op_sub (pe_op op_mod (pv 0) (pe_op (add_K (K := K) rfl) (pe_op (mul_K (K := K) rfl) pe_int (pv 1)) pe_int)) (pv 1)))), ?_⟩)
  rintro ⟨x, n⟩ hn
  have hn : n ≤ 100 := hn
  refine r_retD (ev_sub (ev_mod (j := 2 * (n : Int) + 1) (by omega) (ev_var rfl) (ev_add (ev_mul (a := 10) (b := 10) (by unfold Bd; decide) (Bd.nat (by omega)) (by decide) (by decide) (by decide) ev_int (ev_var rfl)) ev_int)) (ev_var rfl)) ⟨_, rfl, ?_⟩
  have h1 := Int.emod_lt_of_pos x (show 0 < 2 * (n : Int) + 1 by omega)
  have h2 := Int.emod_nonneg x (show 2 * (n : Int) + 1 ≠ 0 by omega)
  show (x % (2 * (n : Int) + 1) - n).natAbs ≤ n
  omega

end
end Tx
end
section
set_option Elab.async false
set_option linter.all false
set_option maxRecDepth 100000
set_option maxHeartbeats 4000000
set_option autoImplicit false
set_option exponentiation.threshold 100000
/-! We: specs, boxes, points: promises. -/
namespace Tx
open PySem L2 Kr Kt Li Ra
def mdT (n : Nat) (m : Md) : D := .tup (mdF n m)
def spD (t : Th) (u : Int) : D := .tup [.int t.n, prs t.ps, .lst (t.ms.map (mdT t.n)), .int u]
/-- bounds in order -/
structure WfBox (B : Nat) (bs : List (Int × Int)) : Prop where
  le : ∀ b ∈ bs, b.1 ≤ b.2
  bd : ∀ b ∈ bs, Bd B b.1 ∧ Bd B b.2
theorem WfBox.mono {B C : Nat} {bs : List (Int × Int)} (h : WfBox B bs) (l : B ≤ C) : WfBox C bs := ⟨h.le, fun b hb => ⟨(h.bd b hb).1.mono l, (h.bd b hb).2.mono l⟩⟩
def unitR (n i : Nat) : List Int := (List.range n).map fun j => if j = i then 1 else 0
def boxRow (bs : List (Int × Int)) (i : Nat) : List (List Int) := [unitR bs.length i ++ [(bs.getD i (0, 0)).2], Li.neg (unitR bs.length i) ++ [0 - (bs.getD i (0, 0)).1]]
def boxRows (bs : List (Int × Int)) : List (List Int) := (List.range bs.length).flatMap (boxRow bs)
/-- the point lies in the box -/
def InBox (bs : List (Int × Int)) (qs : List Rat) : Prop := qs.length = bs.length ∧ ∀ (i : Nat) (b : Int × Int) (q : Rat), bs[i]? = some b → qs[i]? = some q → (b.1 : Rat) ≤ q ∧ q ≤ (b.2 : Rat)
section
variable (K : PySem.W.Frag)
abbrev sp__law_made : Sp := spF K (fun a : Th × Int => [spD a.1 a.2]) (fun a => WfTh a.1) (fun a r => r = thO K a.1)
abbrev sp__law_box : Sp := spF K (fun a : Int × Nat × Int => [.int a.1, .int a.2.1, .int a.2.2]) (fun a => a.2.1 ≤ 3 ∧ 0 ≤ a.2.2 ∧ Bd 120 a.2.2) (fun a r => ∃ bs, r = prs bs ∧ bs.length = a.2.1 ∧ WfBox 200 bs)
abbrev sp__law_rows : Sp := spF K (fun bs : List (Int × Int) => [prs bs]) (fun bs => bs.length ≤ 10) (fun bs r => r = room (boxRows bs))
abbrev sp__law_point : Sp := spF K (fun a : Int × List (Int × Int) => [.int a.1, prs a.2]) (fun a => a.2.length ≤ 10 ∧ WfBox 1000 a.2) (fun a r => ∃ qs, r = dqs qs ∧ InBox a.2 qs ∧ ∀ q ∈ qs, Sq 12 1100 q)
abbrev sp__law_top : Sp := spF K (fun a : Bool × List Int × List (Int × Int) => [sq a.1 a.2.1, prs a.2.2]) (fun a => a.2.1.length ≤ 10 ∧ (∀ x ∈ a.2.1, Bd 200 x) ∧ WfBox 200 a.2.2) (fun a r => ∃ i : Int, r = .int i ∧ Bd 420 i)
abbrev sp__law_both : Sp := spF K (fun a : Bool × List Int × Nat => [sq a.1 a.2.1]) (fun a => a.2.1.length ≤ 20 ∧ ∀ x ∈ a.2.1, Bd a.2.2 x) (fun a r => ∃ xs, r = dl xs ∧ xs.length = 2 * a.2.1.length ∧ ∀ x ∈ xs, Bd (a.2.2 + 1) x)
end
theorem max_b {a : Nat} {x y : Int} (h1 : Bd a x) (h2 : Bd a y) : Bd a (max x y) := by
  rcases Int.le_total x y with h | h
  · rw [Int.max_eq_right h]; exact h2
  · rw [Int.max_eq_left h]; exact h1
theorem small_b {a : Nat} {x : Int} (h : x.natAbs ≤ 100) (ha : 7 ≤ a) : Bd a x := by
  have : 2 ^ 7 ≤ 2 ^ a := Nat.pow_le_pow_right (by decide) ha
  unfold Bd
  have e : (2 : Nat) ^ 7 = 128 := by decide
  omega
section
variable {K : PySem.W.Frag} {ρ : Rho} {ta tb te : TE}
theorem ei_sq {b : Bool} {ns : List Int} (h : EvD K ta ρ (sq b ns)) : EvI K (iSeq K ta) ρ (fun x => x = ns.map D.int) := by
  cases b
  · exact ei_lst h
  · exact ei_tup h
end
theorem prs_get {bs : List (Int × Int)} {k : Nat} {b : Int × Int} (h : bs[k]? = some b) : L2.atI (bs.map fun b => D.tup [.int b.1, .int b.2]) (k : Int) = some (.tup [.int b.1, .int b.2]) := at_nat (by rw [List.getElem?_map, h] <;> rfl)
theorem cast_le {a b : Int} (h : a ≤ b) : (a : Rat) ≤ (b : Rat) := Rat.intCast_le_intCast.mpr h
/-- a point between -/
theorem mix_in {lo hi s p : Int} (h0 : 0 < p) (h1 : 0 ≤ s) (h2 : s ≤ p) (h : lo ≤ hi) : (lo : Rat) ≤ mkRat (lo * (p - s) + hi * s) p.toNat ∧ mkRat (lo * (p - s) + hi * s) p.toNat ≤ (hi : Rat) := by
  have e1 : (lo : Rat) = mkRat (lo * p.toNat) p.toNat := by
    have := Rat.mkRat_mul_right (n := lo) (d := 1) (a := p.toNat) (by omega)
    rw [Nat.one_mul] at this
    rw [this, Rat.mkRat_one]
  have e2 : (hi : Rat) = mkRat (hi * p.toNat) p.toNat := by
    have := Rat.mkRat_mul_right (n := hi) (d := 1) (a := p.toNat) (by omega)
    rw [Nat.one_mul] at this
    rw [this, Rat.mkRat_one]
  have mono : ∀ (a b : Int), a ≤ b → mkRat a p.toNat ≤ mkRat b p.toNat := fun a b hab => by
    rw [Rat.mkRat_eq_div, Rat.mkRat_eq_div, Rat.div_def, Rat.div_def]
    refine Rat.mul_le_mul_of_nonneg_right (cast_le hab) ?_
    have : (0 : Rat) < (p.toNat : Rat) := by exact_mod_cast (show 0 < p.toNat by omega)
    exact Rat.le_of_lt (Rat.inv_pos.mpr this)
  have pe : (p.toNat : Int) = p := Int.toNat_of_nonneg (by omega)
  rw [e1, e2, pe]
  constructor
  · apply mono
    have := Int.mul_le_mul_of_nonneg_right h h1
    have e : lo * (p - s) + lo * s = lo * p := by rw [← Int.mul_add]; congr 1; omega
    omega
  · apply mono
    have := Int.mul_le_mul_of_nonneg_right h (show 0 ≤ p - s by omega)
    have e : hi * (p - s) + hi * s = hi * p := by rw [← Int.mul_add]; congr 1; omega
    omega
end Tx
end
section
set_option Elab.async false
set_option linter.all false
set_option maxRecDepth 100000
set_option maxHeartbeats 4000000
set_option autoImplicit false
set_option exponentiation.threshold 100000
/-! W7: things, boxes, points. -/
namespace Tx
open PySem L2 Kr Kt Li Ra
theorem ok_dl (ns : List Int) (h : ns.length ≤ 1000) (B : Nat) (hb : ∀ x ∈ ns, Bd B x) : ∃ B n, Ok B n (dl ns) := ⟨B, 1, ok_ints (n := 0) h hb⟩
theorem mod_lt {x m : Int} (h : 0 < m) : 0 ≤ x % m ∧ x % m < m := ⟨Int.emod_nonneg _ (by omega), Int.emod_lt_of_pos _ h⟩
theorem boxRows_len (bs : List (Int × Int)) (k : Nat) : ((List.range k).flatMap (boxRow bs)).length = 2 * k := by
  induction k with
  | zero => rfl
  | succ k ih => rw [List.range_succ, List.flatMap_append, List.length_append, ih, List.flatMap_singleton] <;> rfl
theorem lg_small {j : Int} (h : j.natAbs ≤ 100) : j.natAbs.log2 < 9000 := Nat.lt_of_lt_of_le ((small_b (a := 7) h (by decide)).log (by decide)) (by decide)
section
variable {P : Program} {w : World} {K : PySem.W.Frag} {mg : Str → Option Value} {base : Heap} {f : Addr} {fd : FuncData}
theorem ok__law_made (T : Txt K mg) (F : FunD K "_law_made" "_law_made" (defArgs s_law_made) (defBody s_law_made) (defScope s_law_made) [] [] f fd) (k_Thing_init : CalI P w K mg base "Thing" (cThing K) 5 ["self", "many", "pushes", "modes"] (sp_Thing_init K)) (k_Mode_init : CalI P w K mg base "Mode" (cMode K) 3 ["self", "rows", "nexts", "steer", "push", "add", "divisor"] (sp_Mode_init K)) : FnOk P w K mg base CX0 7 f fd ["_law_spec"] (sp__law_made K) := by
  refine fn_ok F sc__law_made (fun _ => rfl) (fun cdv A' outer s H E hr => ⟨_, (pss_cons (ps_asg (pv 0) (tup_K (K := K) (n := 4) rfl rfl (pgs_cons (pg_name (i := 1) sc__law_made.nd rfl (Or.inl rfl)) (pgs_cons (pg_name (i := 2) sc__law_made.nd rfl (Or.inl rfl)) (pgs_cons (pg_name (i := 3) sc__law_made.nd rfl (Or.inl rfl)) (pgs_cons (pg_name (i := 4) sc__law_made.nd rfl (Or.inl rfl)) pgs_nil))))))
      (pss_cons (ps_set (i := 5) sc__law_made.nd rfl (Or.inl rfl) (pe_lst pa_nil))
      (pss_cons (ps_for PassesOwn.never rfl (seq_K (K := K) rfl (pv 3)) (tup_K (K := K) (n := 6) rfl rfl (pgs_cons (pg_name (i := 6) sc__law_made.nd rfl (Or.inl rfl)) (pgs_cons (pg_name (i := 7) sc__law_made.nd rfl (Or.inl rfl)) (pgs_cons (pg_name (i := 8) sc__law_made.nd rfl (Or.inl rfl)) (pgs_cons (pg_name (i := 9) sc__law_made.nd rfl (Or.inl rfl)) (pgs_cons (pg_name (i := 10) sc__law_made.nd rfl (Or.inl rfl)) (pgs_cons (pg_name (i := 11) sc__law_made.nd rfl (Or.inl rfl)) pgs_nil))))))) (pss_cons (ps_setLc (i := 12) rfl sc__law_made.nd rfl rfl (sw_true rfl rfl rfl (by decide +kernel)) (own := [("_law_one", 13)]) (seq_K (K := K) rfl (pv 7)) (blkOk_by (by kernel_rfl)) (fun _ _ _ _ _ => (pg_name (i := 13) sc__law_made.nd rfl (Or.inl rfl))) (fun _ _ _ _ _ => pts_nil) (fun _ _ _ _ _ => (pe_callTy (list_K (K := K) rfl) rfl T.m_list bt_list (pa_cons (pv 13) pa_nil))))
      (pss_one (ps_expr (pe_bm PySem.F.plainAttrs_list PySem.F.slot_list_append PySem.F.type_list_append mt_append (pv 5) (pa_cons (pe_mk k_Mode_init (hr.mono (by decide)) rfl (pa_cons (pe_callTy (list_K (K := K) rfl) rfl T.m_list bt_list (pa_cons (pv 6) pa_nil)) (pa_cons (pv 12) (pa_cons (pe_callTy (list_K (K := K) rfl) rfl T.m_list bt_list (pa_cons (pv 8) pa_nil)) (pa_cons (pe_lc (own := [("_law_one", 13)]) rfl sc__law_made.nd (seq_K (K := K) rfl (pv 9)) (blkOk_by (by kernel_rfl)) (fun _ _ _ _ _ => (pg_name (i := 13) sc__law_made.nd rfl (Or.inl rfl))) (fun _ _ _ _ _ => pts_nil) (fun _ _ _ _ _ => (pe_callTy (list_K (K := K) rfl) rfl T.m_list bt_list (pa_cons (pv 13) pa_nil)))) (pa_cons (pe_callTy (list_K (K := K) rfl) rfl T.m_list bt_list (pa_cons (pv 10) pa_nil)) (pa_cons (pv 11) pa_nil))))))) pa_nil))))))
      (pss_one (ps_ret (pe_mk k_Thing_init (hr.mono (by decide)) rfl (pa_cons (pv 1) (pa_cons (pe_callTy (list_K (K := K) rfl) rfl T.m_list bt_list (pa_cons (pv 2) pa_nil)) (pa_cons (pv 5) pa_nil))))))))), ?_⟩)
  rintro ⟨t, u⟩ h
  have hn : t.n ≤ 3 := h.n3
  have hp : t.ps.length ≤ 6 := h.pl
  have ml : t.ms.length ≤ 40 := h.ml
  refine rq_asg (R := fun d => d = spD t u) (ev_var rfl) fun d e => ?_
  subst e
  refine ⟨_, _, tg_tup rfl (tgs_cons tg_name (tgs_cons tg_name (tgs_cons tg_name (tgs_cons tg_name tgs_nil)))), ?_⟩
  refine rq_ownD ev_nil fun a => ?_
  refine rq_forD (ei_lst (ds := t.ms.map (mdT t.n)) (ev_var rfl)) (fun k ρ => ∃ x6 x7 x8 x9 x10 x11 x12 x13 : Option Sl, ρ = [some (.p (spD t u)), some (.p (.int t.n)), some (.p (prs t.ps)), some (.p (.lst (t.ms.map (mdT t.n)))), some (.p (.int u)), some (.o a ((t.ms.take k).map (mdO K t.n))), x6, x7, x8, x9, x10, x11, x12, x13]) ⟨none, none, none, none, none, none, none, none, rfl⟩ ?_ ?_
  · rintro k d ρ1 hd ⟨x6, x7, x8, x9, x10, x11, x12, x13, rfl⟩
    obtain ⟨m, hm, rfl⟩ := map_get hd
    have wm : WfMd t.n t.ps.length m := h.mw m (mem_at hm)
    have nl := wm.nl
    have pl := wm.pl
    refine ⟨_, _, tg_tup rfl (tgs_cons tg_name (tgs_cons tg_name (tgs_cons tg_name (tgs_cons tg_name (tgs_cons tg_name (tgs_cons tg_name tgs_nil)))))), ?_⟩
    refine rq_setD (d := tbl m.nexts) (ev_is (ev_lcD (fun d => d) (ei_lst (ev_var rfl)) (by rw [List.length_map]; omega) (fun _ h => h) fun d hd => ?_).toD (by rw [List.map_id'])) ?_
    · obtain ⟨r, hr, rfl⟩ := List.mem_map.mp hd
      exact ⟨_, tg_name, (ev_list (ev_var rfl)).toD⟩
    refine r_app (R := fun d => d = mdO K t.n m) (i := 5) rfl (by rw [List.length_map, List.length_take]; omega) (ev_make (ea_consD (ev_list (ev_var rfl)).toD (ea_consD (ev_var rfl) (ea_consD (ev_list (ev_var rfl)).toD (ea_consD (d := tbl m.push) (ev_is (ev_lcD (fun d => d) (ei_lst (ev_var rfl)) (by rw [List.length_map]; omega) (fun _ h => h) fun d hd => ?_).toD (by rw [List.map_id'])) (ea_consD (ev_list (ev_var rfl)).toD (ea_consD (ev_var rfl) ea_nil)))))) fun es e => ⟨(room m.rows, tbl m.nexts, dl (zeros t.n), tbl m.push, dl m.add, .int m.div), e.symm, ⟨⟨_, _, wm.okRows hn⟩, ⟨_, _, wm.okNexts hn⟩, ⟨1000, _, ok_zeros hn⟩, ⟨_, _, wm.okPush hn hp⟩, ⟨_, _, wm.okAdd hn⟩⟩, fun fs z => by rw [z] <;> rfl⟩) fun d e => ?_
    · obtain ⟨r, hr, rfl⟩ := List.mem_map.mp hd
      exact ⟨_, tg_name, (ev_list (ev_var rfl)).toD⟩
    subst e
    rw [take_snoc hm, List.map_append]
    exact ⟨_, _, _, _, _, _, _, _, rfl⟩
  · rintro ρ1 ⟨x6, x7, x8, x9, x10, x11, x12, x13, rfl⟩
    rw [List.length_map, List.take_length]
    refine r_freeze (i := 5) rfl (r_ret (ev_make (ea_consD (ev_var rfl) (ea_consD (ev_list (ev_var rfl)).toD (ea_consD (ev_var rfl) ea_nil))) fun es e => ⟨t, e.symm, h, fun fs z => by rw [z] <;> rfl⟩))

theorem ok__law_box (T : Txt K mg) (F : FunD K "_law_box" "_law_box" (defArgs s_law_box) (defBody s_law_box) (defScope s_law_box) [] [] f fd) (k__law_number : Cal P w K mg base "_law_number" 1 ["_law_x", "_law_far"] (sp__law_number K)) (k__law_stream : Cal P w K mg base "_law_stream" 1 ["_law_cell", "_law_many"] (sp__law_stream K)) : FnOk P w K mg base CX0 2 f fd ["_law_cell", "_law_many", "_law_unit"] (sp__law_box K) := by
  refine fn_ok F sc__law_box (fun _ => rfl) (fun cdv A' outer s H E hr => ⟨_, (pss_cons (ps_set (i := 3) sc__law_box.nd rfl (Or.inl rfl) (pe_cal k__law_stream (hr.mono (by decide)) rfl (pa_cons (pv 0) (pa_cons (pe_op (mul_K (K := K) rfl) pe_int (pv 1)) pa_nil))))
      (pss_cons (ps_set (i := 4) sc__law_box.nd rfl (Or.inl rfl) (pe_lst pa_nil))
      (pss_cons (ps_for PassesOwn.never rfl (pi_range1 rfl T.m_range (pa_cons (pv 1) pa_nil)) (pg_name (i := 5) sc__law_box.nd rfl (Or.inl rfl)) (pss_cons (ps_set (i := 6) sc__law_box.nd rfl (Or.inl rfl) (pe_op (mul_K (K := K) rfl) (pe_cal k__law_number (hr.mono (by decide)) rfl (pa_cons (pe_ix (ix_K (K := K) rfl) (pv 3) (pe_op (mul_K (K := K) rfl) pe_int (pv 5)) (fun _ _ => rfl)) (pa_cons pe_int pa_nil))) (pv 2)))
      (pss_one (ps_expr (pe_bm PySem.F.plainAttrs_list PySem.F.slot_list_append PySem.F.type_list_append mt_append (pv 4) (pa_cons (pe_tup (pa_cons (pv 6) (pa_cons (pe_op (add_K (K := K) rfl) (pe_op (add_K (K := K) rfl) (pv 6) (pe_op (mul_K (K := K) rfl) (pe_op op_mod (pe_ix (ix_K (K := K) rfl) (pv 3) (pe_op (add_K (K := K) rfl) (pe_op (mul_K (K := K) rfl) pe_int (pv 5)) pe_int) (fun _ _ => rfl)) pe_int) (pv 2))) (pe_op op_mod (pe_op op_fdivW (pe_ix (ix_K (K := K) rfl) (pv 3) (pe_op (add_K (K := K) rfl) (pe_op (mul_K (K := K) rfl) pe_int (pv 5)) pe_int) (fun _ _ => rfl)) pe_int) pe_int)) pa_nil))) pa_nil))))))
      (pss_one (ps_ret (pv 4)))))), ?_⟩)
  rintro ⟨c, n, u⟩ ⟨hn, h0, hu⟩
  have hn : n ≤ 3 := hn
  have h0 : 0 ≤ u := h0
  have hu : Bd 120 u := hu
  refine rq_set (ev_callD (c, 2 * n) (ea_consD (ev_var rfl) (ea_consD (ev_is (ev_mul (a := 10) (b := 10) (by unfold Bd; decide) (small_b (by omega) (by decide)) (by decide) (by decide) (by decide) ev_int (ev_var rfl)) (by show D.int _ = D.int _; rw [Int.natCast_mul] <;> rfl)) ea_nil)) (by show 2 * n ≤ 100; omega)) ?_
  rintro d ⟨xs, rfl, lx, hx⟩
  have lx : xs.length = 2 * n := lx
  refine rq_ownD ev_nil fun a => ?_
  refine rq_forD (ei_range (n := n) (by omega) (by omega) (ev_var rfl)) (fun k ρ => ∃ (x5 x6 : Option Sl) (bs : List (Int × Int)), ρ = [some (.p (.int c)), some (.p (.int n)), some (.p (.int u)), some (.p (dl xs)), some (.o a (bs.map fun b => .tup [.int b.1, .int b.2])), x5, x6] ∧ bs.length = k ∧ WfBox 200 bs) ⟨none, none, [], rfl, rfl, ⟨(fun b hb => nomatch hb), (fun b hb => nomatch hb)⟩⟩ ?_ ?_
  · rintro k d ρ1 hd ⟨x5, x6, bs, rfl, hl, hb⟩
    obtain ⟨hk, rfl⟩ := rangeD_get hd
    have hk : k < n := by omega
    obtain ⟨x, hx1, mx⟩ := get_ex (r := xs) (k := 2 * k) (by omega)
    obtain ⟨y, hy1, my⟩ := get_ex (r := xs) (k := 2 * k + 1) (by omega)
    have ix : ∀ {ρ : Rho} {tv : TE}, EvD K tv ρ (.int k) → EvD K (tOp (rMulX K) (tC (.int 2)) tv) ρ (.int (2 * k : Nat)) := fun h => ev_is (ev_mul (a := 10) (b := 10) (by unfold Bd; decide) (small_b (by omega) (by decide)) (by decide) (by decide) (by decide) ev_int h) (by rw [Int.natCast_mul] <;> rfl)
    have ix1 : ∀ {ρ : Rho} {tv : TE}, EvD K tv ρ (.int k) → EvD K (tOp (rAddX K) (tOp (rMulX K) (tC (.int 2)) tv) (tC (.int 1))) ρ (.int (2 * k + 1 : Nat)) := fun h => ev_is (ev_add (ix h) ev_int) rfl
    refine ⟨_, _, tg_name, ?_⟩
    refine rq_set (R := fun d => ∃ i : Int, d = .int i ∧ Bd 130 i) ((ev_opR (Ra := fun d => ∃ i : Int, d = .int i ∧ i.natAbs ≤ 3) (Rb := fun d => d = .int u) (ev_callD (x, 3) (ea_consD (ev_ixL (at_ints hx1) (ev_var rfl) (ix (ev_var rfl))) (ea_consD ev_int ea_nil)) (by show 3 ≤ 100; decide)) (ev_var rfl) ?_)) ?_
    · rintro x1 y1 ⟨i, rfl, hi⟩ rfl
      have bi : Bd 7 i := small_b (by omega) (by decide)
      refine OpD.l fun G H v u' se h1 h2 Q q => ?_
      exact od_I (C := CMulW) (g := fun i j => .int (i * j)) (e := .int (i * u)) (wide_mul bi hu (by decide) (by decide) (by decide)) (fun G => dt_int.mpr rfl) G H v u' se h1 h2 Q fun w G' H' d gr t e => q w G' H' d gr t ⟨i * u, e, (bi.mul hu).mono (by decide)⟩
    · rintro d ⟨lo, rfl, blo⟩
      have q1 := mod_lt (x := y) (m := 4) (by decide)
      have q2 := mod_lt (x := y / 4) (m := 2) (by decide)
      have bu : Bd 130 (y % 4 * u) := ((small_b (a := 7) (by omega) (by decide) : Bd 7 (y % 4)).mul hu).mono (by decide)
      have hnn : 0 ≤ y % 4 * u := Int.mul_nonneg q1.1 h0
      refine r_app (i := 4) rfl (by rw [List.length_map]; omega) (ev_tup (ds := [.int lo, .int (lo + y % 4 * u + y / 4 % 2)]) (ea_consD (ev_var rfl) (ea_consD (ev_add (ev_add (ev_var rfl) (ev_mul (a := 7) (small_b (by omega) (by decide)) hu (by decide) (by decide) (by decide) (ev_mod (by decide) (ev_ixL (at_ints hy1) (ev_var rfl) (ix1 (ev_var rfl))) ev_int) (ev_var rfl))) (ev_mod (by decide) (ev_div (by decide) (lg_small (by decide)) (ev_ixL (at_ints hy1) (ev_var rfl) (ix1 (ev_var rfl))) ev_int) ev_int)) ea_nil)) (by show 2 ≤ 100000; decide)) fun d e => ?_
      subst e
      refine ⟨_, _, bs ++ [(lo, lo + y % 4 * u + y / 4 % 2)], by rw [List.map_append] <;> rfl, by rw [List.length_append, hl] <;> rfl, ?_, ?_⟩
      · intro b hb'
        rcases List.mem_append.mp hb' with hb' | hb'
        · exact hb.le b hb'
        · rw [List.mem_singleton.mp hb']
          show lo ≤ lo + y % 4 * u + y / 4 % 2
          omega
      · intro b hb'
        rcases List.mem_append.mp hb' with hb' | hb'
        · exact hb.bd b hb'
        · rw [List.mem_singleton.mp hb']
          exact ⟨blo.mono (by decide), (Bd.add (Bd.add blo bu) (small_b (by omega) (by decide))).mono (by decide)⟩
  · rintro ρ1 ⟨x5, x6, bs, rfl, hl, hb⟩
    rw [rangeD_len, Int.toNat_natCast] at hl
    exact r_retO (i := 4) rfl ⟨bs, rfl, hl, hb⟩

theorem ok__law_rows (T : Txt K mg) (F : FunD K "_law_rows" "_law_rows" (defArgs s_law_rows) (defBody s_law_rows) (defScope s_law_rows) [] [] f fd)  : FnOk P w K mg base CX0 1 f fd ["_law_box_here"] (sp__law_rows K) := by
  refine fn_ok F sc__law_rows (fun _ => rfl) (fun cdv A' outer s H E hr => ⟨_, (pss_cons (ps_set (i := 1) sc__law_rows.nd rfl (Or.inl rfl) (pe_lst pa_nil))
      (pss_cons (ps_for PassesOwn.never rfl (pi_range1 rfl T.m_range (pa_cons (pe_callB (len_K (K := K) rfl) rfl T.m_len bt_len (pa_cons (pv 0) pa_nil)) pa_nil)) (pg_name (i := 2) sc__law_rows.nd rfl (Or.inr rfl)) (pss_cons (ps_setLc (i := 3) rfl sc__law_rows.nd rfl rfl (sw_true rfl rfl rfl (by decide +kernel)) (own := [("_law_j", 4)]) (pi_range1 rfl T.m_range (pa_cons (pe_callB (len_K (K := K) rfl) rfl T.m_len bt_len (pa_cons (pv 0) pa_nil)) pa_nil)) (blkOk_by (by kernel_rfl)) (fun _ _ _ _ _ => (pg_name (i := 4) sc__law_rows.nd rfl (Or.inl rfl))) (fun _ _ _ _ _ => pts_nil) (fun _ _ _ _ _ => (pe_callTy call_int1 rfl T.m_int bt_int (pa_cons (pe_cmpR (eq_K (K := K) rfl hr.units) (pv 4) (pv 2) (nomark _)) pa_nil))))
      (pss_cons (ps_expr (pe_bm PySem.F.plainAttrs_list PySem.F.slot_list_append PySem.F.type_list_append mt_append (pv 1) (pa_cons (pe_callTy (tuple_K (K := K) rfl) rfl T.m_tuple bt_tuple (pa_cons (pe_op (add_K (K := K) rfl) (pv 3) (pe_lst (pa_cons (pe_ix (ix_K (K := K) rfl) (pe_ix (ix_K (K := K) rfl) (pv 0) (pv 2) (fun _ _ => rfl)) pe_int (fun _ _ => rfl)) pa_nil))) pa_nil)) pa_nil)))
      (pss_one (ps_expr (pe_bm PySem.F.plainAttrs_list PySem.F.slot_list_append PySem.F.type_list_append mt_append (pv 1) (pa_cons (pe_callTy (tuple_K (K := K) rfl) rfl T.m_tuple bt_tuple (pa_cons (pe_op (add_K (K := K) rfl) (pe_lc (own := [("_law_one", 5)]) rfl sc__law_rows.nd (seq_K (K := K) rfl (pv 3)) (blkOk_by (by kernel_rfl)) (fun _ _ _ _ _ => (pg_name (i := 5) sc__law_rows.nd rfl (Or.inl rfl))) (fun _ _ _ _ _ => pts_nil) (fun _ _ _ _ _ => (pe_op op_sub pe_int (pv 5)))) (pe_lst (pa_cons (pe_op op_sub pe_int (pe_ix (ix_K (K := K) rfl) (pe_ix (ix_K (K := K) rfl) (pv 0) (pv 2) (fun _ _ => rfl)) pe_int (fun _ _ => rfl))) pa_nil))) pa_nil)) pa_nil)))))))
      (pss_one (ps_ret (pv 1))))), ?_⟩)
  intro bs hl
  have hl : bs.length ≤ 10 := hl
  refine rq_ownD ev_nil fun a => ?_
  refine rq_forD (ei_range (n := bs.length) (by omega) (by omega) (ev_is (ev_len (ev_var rfl)) (by rw [List.length_map]))) (fun k ρ => ∃ x2 x3 x4 x5 : Option Sl, ρ = [some (.p (prs bs)), some (.o a (((List.range k).flatMap (boxRow bs)).map dt)), x2, x3, x4, x5]) ⟨none, none, none, none, rfl⟩ ?_ ?_
  · rintro k d ρ1 hd ⟨x2, x3, x4, x5, rfl⟩
    obtain ⟨hk, rfl⟩ := rangeD_get hd
    have hk : k < bs.length := by omega
    obtain ⟨b, hb, _⟩ := get_ex (r := bs) (k := k) hk
    have ll := boxRows_len bs k
    have lu : (unitR bs.length k).length = bs.length := by unfold unitR; rw [List.length_map, List.length_range]
    refine ⟨_, _, tg_name, ?_⟩
    refine rq_setD (d := dl (unitR bs.length k)) (ev_is (ev_lcD (fun d => match d with | .int j => .int (if j = k then 1 else 0) | d => d) (ei_range (n := bs.length) (by omega) (by omega) (ev_is (ev_len (ev_var rfl)) (by rw [List.length_map]))) (by rw [rangeD_len]; omega) (fun _ h => h) fun d hd => ?_).toD ?_) ?_
    · obtain ⟨j, hj⟩ := List.mem_iff_getElem?.mp hd
      obtain ⟨hj', rfl⟩ := rangeD_get hj
      refine ⟨_, tg_name, ev_is (ev_intB (ev_eqI (ev_var rfl) (ev_var rfl))) ?_⟩
      show D.int _ = D.int _
      congr 1
      by_cases c : (j : Int) = k
      · rw [if_pos c, decide_eq_true c, if_pos rfl]
      · rw [if_neg c, decide_eq_false c, if_neg Bool.false_ne_true]
    · show D.lst _ = D.lst _
      rw [Int.toNat_natCast, rangeD, unitR, List.map_map, List.map_map]
      congr 1
      refine List.map_congr_left fun j hj => ?_
      show D.int _ = D.int _
      congr 1
      show (if (j : Int) = (k : Int) then (1 : Int) else 0) = if j = k then 1 else 0
      by_cases c : j = k
      · rw [if_pos c, if_pos (by omega)]
      · rw [if_neg c, if_neg (by omega)]
    refine rq_app (i := 1) (R := fun d => d = dt (unitR bs.length k ++ [b.2])) rfl (by rw [List.length_map, ll]; omega) (ev_tuple (ev_is (ev_cat (xs := (unitR bs.length k).map D.int) (ys := [.int b.2]) (by rw [List.length_map, lu, List.length_singleton]; omega) (ev_var rfl) (ev_lstD (ea_consD (ev_ixT (xs := [.int b.1, .int b.2]) rfl (ev_ixL (prs_get hb) (ev_var rfl) (ev_var rfl)) ev_int) ea_nil) (by show 1 ≤ 100000; decide)).toD).toD (by rw [List.map_append] <;> rfl))) fun d e => ?_
    subst e
    refine r_app (i := 1) (R := fun d => d = dt (Li.neg (unitR bs.length k) ++ [0 - b.1])) rfl (by rw [List.length_append, List.length_map, ll, List.length_singleton]; omega) (ev_tuple (ev_is (ev_cat (xs := (Li.neg (unitR bs.length k)).map D.int) (ys := [.int (0 - b.1)]) (by rw [List.length_map, neg_len, lu, List.length_singleton]; omega) (ev_is (ev_lcD (fun d => match d with | .int i => .int (0 - i) | d => d) (ei_lst (ev_var rfl)) (by rw [List.length_map]; omega) (fun _ h => h) fun d hd => ?_).toD ?_) (ev_lstD (ea_consD (ev_sub ev_int (ev_ixT (xs := [.int b.1, .int b.2]) rfl (ev_ixL (prs_get hb) (ev_var rfl) (ev_var rfl)) ev_int)) ea_nil) (by show 1 ≤ 100000; decide)).toD).toD (by rw [List.map_append] <;> rfl))) fun d e => ?_
    · obtain ⟨i, hi, rfl⟩ := List.mem_map.mp hd
      exact ⟨_, tg_name, ev_sub ev_int (ev_var rfl)⟩
    · show D.lst _ = D.lst _
      rw [List.map_map, Li.neg, List.map_map] <;> rfl
    subst e
    have eg : bs.getD k (0, 0) = b := by rw [List.getD_eq_getElem?_getD, hb] <;> rfl
    have e2 : ((List.range k).flatMap (boxRow bs)).map dt ++ [dt (unitR bs.length k ++ [b.2])] ++ [dt (Li.neg (unitR bs.length k) ++ [0 - b.1])] = ((List.range (k + 1)).flatMap (boxRow bs)).map dt := by
      rw [List.range_succ, List.flatMap_append, List.map_append, List.flatMap_singleton, boxRow, eg, List.append_assoc] <;> rfl
    rw [e2]
    exact ⟨_, _, _, _, rfl⟩
  · rintro ρ1 ⟨x2, x3, x4, x5, rfl⟩
    rw [rangeD_len, Int.toNat_natCast]
    exact r_retO (i := 1) rfl rfl

theorem ok__law_point (T : Txt K mg) (F : FunD K "_law_point" "_law_point" (defArgs s_law_point) (defBody s_law_point) (defScope s_law_point) [] [] f fd) (k__law_lowest : Cal P w K mg base "_law_lowest" 2 ["_law_top_here", "_law_bottom"] (sp__law_lowest K)) (k__law_stream : Cal P w K mg base "_law_stream" 1 ["_law_cell", "_law_many"] (sp__law_stream K)) : FnOk P w K mg base CX0 3 f fd ["_law_cell", "_law_box_here"] (sp__law_point K) := by
  refine fn_ok F sc__law_point (fun _ => rfl) (fun cdv A' outer s H E hr => ⟨_, (pss_cons (ps_set (i := 2) sc__law_point.nd rfl (Or.inl rfl) (pe_cal k__law_stream (hr.mono (by decide)) rfl (pa_cons (pv 0) (pa_cons (pe_op (add_K (K := K) rfl) (pe_callB (len_K (K := K) rfl) rfl T.m_len bt_len (pa_cons (pv 1) pa_nil)) pe_int) pa_nil))))
      (pss_cons (ps_set (i := 3) sc__law_point.nd rfl (Or.inl rfl) (pe_op (add_K (K := K) rfl) pe_int (pe_op op_mod (pe_ix (ix_K (K := K) rfl) (pv 2) (pe_un un_neg pe_int) (fun _ _ => rfl)) pe_int)))
      (pss_cons (ps_set (i := 4) sc__law_point.nd rfl (Or.inl rfl) (pe_lst pa_nil))
      (pss_cons (ps_for PassesOwn.never rfl (pi_range1 rfl T.m_range (pa_cons (pe_callB (len_K (K := K) rfl) rfl T.m_len bt_len (pa_cons (pv 1) pa_nil)) pa_nil)) (pg_name (i := 5) sc__law_point.nd rfl (Or.inl rfl)) (pss_cons (ps_asg (pe_ix (ix_K (K := K) rfl) (pv 1) (pv 5) (fun _ _ => rfl)) (tup_K (K := K) (n := 2) rfl rfl (pgs_cons (pg_name (i := 6) sc__law_point.nd rfl (Or.inl rfl)) (pgs_cons (pg_name (i := 7) sc__law_point.nd rfl (Or.inl rfl)) pgs_nil))))
      (pss_cons (ps_set (i := 8) sc__law_point.nd rfl (Or.inl rfl) (pe_ix (ix_K (K := K) rfl) (pe_lst (pa_cons pe_int (pa_cons (pv 3) (pa_cons (pe_op op_mod (pe_ix (ix_K (K := K) rfl) (pv 2) (pv 5) (fun _ _ => rfl)) (pe_op (add_K (K := K) rfl) (pv 3) pe_int)) pa_nil)))) (pe_op op_mod (pe_op op_fdivW (pe_ix (ix_K (K := K) rfl) (pv 2) (pv 5) (fun _ _ => rfl)) pe_int) pe_int) (fun _ _ => rfl)))
      (pss_one (ps_expr (pe_bm PySem.F.plainAttrs_list PySem.F.slot_list_append PySem.F.type_list_append mt_append (pv 4) (pa_cons (pe_cal k__law_lowest (hr.mono (by decide)) rfl (pa_cons (pe_op (add_K (K := K) rfl) (pe_op (mul_K (K := K) rfl) (pv 6) (pe_op op_sub (pv 3) (pv 8))) (pe_op (mul_K (K := K) rfl) (pv 7) (pv 8))) (pa_cons (pv 3) pa_nil))) pa_nil)))))))
      (pss_one (ps_ret (pv 4))))))), ?_⟩)
  rintro ⟨c, bs⟩ ⟨hl, hb⟩
  have hl : bs.length ≤ 10 := hl
  have hb : WfBox 1000 bs := hb
  refine rq_set (ev_callD (c, bs.length + 1) (ea_consD (ev_var rfl) (ea_consD (ev_is (ev_add (ev_len (ev_var rfl)) ev_int) (by rw [List.length_map] <;> rfl)) ea_nil)) (by show bs.length + 1 ≤ 100; omega)) ?_
  rintro d ⟨xs, rfl, lx, hx⟩
  have lx : xs.length = bs.length + 1 := lx
  have xn : xs ≠ [] := ne_nil_len lx
  refine rq_setD (ev_add ev_int (ev_mod (by decide) (ev_ixL (at_lastI xn) (ev_var rfl) (ev_neg ev_int)) ev_int)) ?_
  have q1 := mod_lt (x := xs.getLastD 0) (m := 4) (by decide)
  obtain ⟨p, hp⟩ : ∃ p, p = 1 + xs.getLastD 0 % 4 := ⟨_, rfl⟩
  rw [← hp]
  have p1 : 1 ≤ p := by omega
  have p4 : p ≤ 4 := by omega
  refine rq_ownD ev_nil fun a => ?_
  refine rq_forD (ei_range (n := bs.length) (by omega) (by omega) (ev_is (ev_len (ev_var rfl)) (by rw [List.length_map]))) (fun k ρ => ∃ (x5 x6 x7 x8 : Option Sl) (qs : List Rat), ρ = [some (.p (.int c)), some (.p (prs bs)), some (.p (dl xs)), some (.p (.int p)), some (.o a (qs.map dq)), x5, x6, x7, x8] ∧ qs.length = k ∧ (∀ (i : Nat) (b : Int × Int) (q : Rat), bs[i]? = some b → qs[i]? = some q → (b.1 : Rat) ≤ q ∧ q ≤ (b.2 : Rat)) ∧ ∀ q ∈ qs, Sq 12 1100 q) ⟨none, none, none, none, [], rfl, rfl, (fun i b q _ h => nomatch h), (fun q h => nomatch h)⟩ ?_ ?_
  · rintro k d ρ1 hd ⟨x5, x6, x7, x8, qs, rfl, hq, h1, h2⟩
    obtain ⟨hk, rfl⟩ := rangeD_get hd
    have hk : k < bs.length := by omega
    obtain ⟨b, hb', mb⟩ := get_ex (r := bs) (k := k) hk
    obtain ⟨x, hx1, mx⟩ := get_ex (r := xs) (k := k) (by omega)
    refine ⟨_, _, tg_name, ?_⟩
    refine rq_asg (R := fun d => d = .tup [.int b.1, .int b.2]) (ev_ixL (prs_get hb') (ev_var rfl) (ev_var rfl)) fun d e => ?_
    subst e
    refine ⟨_, _, tg_tup rfl (tgs_cons tg_name (tgs_cons tg_name tgs_nil)), ?_⟩
    have q2 := mod_lt (x := x / 8) (m := 3) (by decide)
    have q3 := mod_lt (x := x) (m := p + 1) (by omega)
    obtain ⟨s, hs, ms⟩ : ∃ s : Int, L2.atI [D.int 0, D.int p, D.int (x % (p + 1))] (x / 8 % 3) = some (.int s) ∧ (0 ≤ s ∧ s ≤ p) := by
      have h3 : x / 8 % 3 = 0 ∨ x / 8 % 3 = 1 ∨ x / 8 % 3 = 2 := by omega
      rcases h3 with h | h | h
      · rw [h]; exact ⟨0, rfl, by omega⟩
      · rw [h]; exact ⟨p, rfl, by omega⟩
      · rw [h]; exact ⟨x % (p + 1), rfl, by omega⟩
    refine rq_setD (ev_ixL hs (ev_lstD (ea_consD ev_int (ea_consD (ev_var rfl) (ea_consD (ev_mod (by omega) (ev_ixL (at_ints hx1) (ev_var rfl) (ev_var rfl)) (ev_add (ev_var rfl) ev_int)) ea_nil))) (by show 3 ≤ 100000; decide)).toD (ev_mod (by decide) (ev_div (by decide) (lg_small (by decide)) (ev_ixL (at_ints hx1) (ev_var rfl) (ev_var rfl)) ev_int) ev_int)) ?_
    have b1 := (hb.bd b mb).1
    have b2 := (hb.bd b mb).2
    have c1 : Bd 7 (p - s) := small_b (by omega) (by decide)
    have c2 : Bd 7 s := small_b (by omega) (by decide)
    have pe : (p.toNat : Int) = p := Int.toNat_of_nonneg (by omega)
    refine r_app (i := 4) (R := fun d => d = dq (mkRat (b.1 * (p - s) + b.2 * s) p.toNat)) rfl (by rw [List.length_map]; omega) (ev_callD (b.1 * (p - s) + b.2 * s, p.toNat) (ea_consD (ev_add (ev_mul b1 c1 (by decide) (by decide) (by decide) (ev_var rfl) (ev_sub (ev_var rfl) (ev_var rfl))) (ev_mul b2 c2 (by decide) (by decide) (by decide) (ev_var rfl) (ev_var rfl))) (ea_consD (ev_is (ev_var rfl) (by rw [pe])) ea_nil)) ⟨?_, ?_⟩) fun d e => ?_
    · show 0 < p.toNat
      omega
    · show p.toNat < 2 ^ 8000
      exact Nat.lt_of_le_of_lt (show p.toNat ≤ 4 by omega) (Nat.lt_of_lt_of_le (show 4 < 2 ^ 3 by decide) (Nat.pow_le_pow_right (by decide) (by decide)))
    subst e
    refine ⟨_, _, _, _, qs ++ [mkRat (b.1 * (p - s) + b.2 * s) p.toNat], by rw [List.map_append] <;> rfl, by rw [List.length_append, hq] <;> rfl, fun i b' q' hi hj => ?_, fun q' h => ?_⟩
    · by_cases ci : i < qs.length
      · rw [List.getElem?_append_left ci] at hj
        exact h1 i b' q' hi hj
      · have ck : i = k := by
          have := (List.getElem?_eq_some_iff.mp hj).1
          rw [List.length_append, List.length_singleton] at this
          omega
        subst ck
        rw [List.getElem?_append_right (by omega), hq, Nat.sub_self] at hj
        cases hj
        rw [hb'] at hi
        cases hi
        exact mix_in (by omega) ms.1 ms.2 (hb.le b mb)
    · rcases List.mem_append.mp h with h | h
      · exact h2 q' h
      · rw [List.mem_singleton.mp h]
        have sm : Sq p.toNat 1010 (mkRat (b.1 * (p - s) + b.2 * s) p.toNat) := ⟨_, rfl, (Bd.add (b1.mul c1) (b2.mul c2)).mono (by decide)⟩
        have hp4 : p = 1 ∨ p = 2 ∨ p = 3 ∨ p = 4 := by omega
        rcases hp4 with e | e | e | e <;> rw [e] at sm ⊢
        · exact (sm.scale 12 (by decide) (c := 4) (by decide)).mono (by decide)
        · exact (sm.scale 6 (by decide) (c := 4) (by decide)).mono (by decide)
        · exact (sm.scale 4 (by decide) (c := 4) (by decide)).mono (by decide)
        · exact (sm.scale 3 (by decide) (c := 4) (by decide)).mono (by decide)
  · rintro ρ1 ⟨x5, x6, x7, x8, qs, rfl, hq, h1, h2⟩
    rw [rangeD_len, Int.toNat_natCast] at hq
    exact r_retO (i := 4) rfl ⟨qs, rfl, ⟨hq, h1⟩, h2⟩

theorem ok__law_top (T : Txt K mg) (F : FunD K "_law_top" "_law_top" (defArgs s_law_top) (defBody s_law_top) (defScope s_law_top) [] [] f fd)  : FnOk P w K mg base CX0 1 f fd ["_law_numbers", "_law_box_here"] (sp__law_top K) := by
  refine fn_ok F sc__law_top (fun _ => rfl) (fun cdv A' outer s H E hr => ⟨_, (pss_cons (ps_set (i := 2) sc__law_top.nd rfl (Or.inl rfl) pe_int)
      (pss_cons (ps_for PassesOwn.never rfl (zip_K (K := K) rfl rfl T.m_zip (pa_cons (pv 0) (pa_cons (pv 1) pa_nil))) (tup_K (K := K) (n := 2) rfl rfl (pgs_cons (pg_name (i := 3) sc__law_top.nd rfl (Or.inl rfl)) (pgs_cons (pg_name (i := 4) sc__law_top.nd rfl (Or.inl rfl)) pgs_nil))) (pss_one (ps_set (i := 2) sc__law_top.nd rfl (Or.inl rfl) (pe_op (add_K (K := K) rfl) (pv 2) (pe_callB (call_max2 rfl) rfl T.m_max bt_max (pa_cons (pe_op (mul_K (K := K) rfl) (pv 3) (pe_ix (ix_K (K := K) rfl) (pv 4) pe_int (fun _ _ => rfl))) (pa_cons (pe_op (mul_K (K := K) rfl) (pv 3) (pe_ix (ix_K (K := K) rfl) (pv 4) pe_int (fun _ _ => rfl))) pa_nil)))))))
      (pss_one (ps_ret (pv 2))))), ?_⟩)
  rintro ⟨s, ns, bs⟩ ⟨hl, hn, hb⟩
  have hl : ns.length ≤ 10 := hl
  have hb : WfBox 200 bs := hb
  refine rq_setD (d := .int 0) ev_int ?_
  refine rq_forD (ei_zip (sq_is s ns) (.inl rfl) (ev_var rfl) (ev_var rfl)) (fun k ρ => ∃ (x3 x4 : Option Sl) (y : Int), ρ = [some (.p (sq s ns)), some (.p (prs bs)), some (.p (.int y)), x3, x4] ∧ Bd (400 + k) y) ⟨none, none, 0, rfl, Bd.zero⟩ ?_ ?_
  · rintro k d ρ1 hd ⟨x3, x4, y, rfl, hy⟩
    obtain ⟨x, z, hx, hz, rfl⟩ := zipD_get hd
    obtain ⟨n, hn', rfl⟩ := map_get hx
    obtain ⟨b, hb', rfl⟩ := map_get hz
    have bn := hn n (mem_at hn')
    obtain ⟨b1, b2⟩ := hb.bd b (mem_at hb')
    refine ⟨_, _, tg_tup rfl (tgs_cons tg_name (tgs_cons tg_name tgs_nil)), ?_⟩
    refine r_set (ev_add (ev_var rfl) (ev_max (ev_mul bn b1 (by decide) (by decide) (by decide) (ev_var rfl) (ev_ixT rfl (ev_var rfl) ev_int)) (ev_mul bn b2 (by decide) (by decide) (by decide) (ev_var rfl) (ev_ixT rfl (ev_var rfl) ev_int)))) fun d e => ?_
    subst e
    exact ⟨_, _, _, rfl, hy.add ((max_b (bn.mul b1) (bn.mul b2)).mono (Nat.le_add_right 400 k))⟩
  · rintro ρ1 ⟨x3, x4, y, rfl, hy⟩
    refine r_retD (ev_var rfl) ⟨y, rfl, hy.mono ?_⟩
    rw [zipD_len, List.length_map]
    omega

theorem ok__law_both (T : Txt K mg) (F : FunD K "_law_both" "_law_both" (defArgs s_law_both) (defBody s_law_both) (defScope s_law_both) [] [] f fd)  : FnOk P w K mg base CX0 1 f fd ["_law_numbers"] (sp__law_both K) := by
  refine fn_ok F sc__law_both (fun _ => rfl) (fun cdv A' outer s H E hr => ⟨_, (pss_cons (ps_set (i := 1) sc__law_both.nd rfl (Or.inl rfl) (pe_lst pa_nil))
      (pss_cons (ps_for PassesOwn.never rfl (seq_K (K := K) rfl (pv 0)) (pg_name (i := 2) sc__law_both.nd rfl (Or.inl rfl)) (pss_one (ps_set (i := 1) sc__law_both.nd rfl (Or.inl rfl) (pe_op (add_K (K := K) rfl) (pv 1) (pe_lst (pa_cons (pe_callB (call_max2 rfl) rfl T.m_max bt_max (pa_cons (pv 2) (pa_cons pe_int pa_nil))) (pa_cons (pe_callB (call_max2 rfl) rfl T.m_max bt_max (pa_cons (pe_op op_sub pe_int (pv 2)) (pa_cons pe_int pa_nil))) pa_nil)))))))
      (pss_one (ps_ret (pv 1))))), ?_⟩)
  rintro ⟨s, ns, B⟩ ⟨hl, hn⟩
  have hl : ns.length ≤ 20 := hl
  refine rq_setD (d := dl []) ev_nil.toD ?_
  refine rq_forD (ei_sq (b := s) (ns := ns) (ev_var rfl)) (fun k ρ => ∃ (x2 : Option Sl) (ys : List Int), ρ = [some (.p (sq s ns)), some (.p (dl ys)), x2] ∧ ys.length = 2 * k ∧ ∀ y ∈ ys, Bd (B + 1) y) ⟨none, [], rfl, rfl, fun y h => nomatch h⟩ ?_ ?_
  · rintro k d ρ1 hd ⟨x2, ys, rfl, h1, h2⟩
    obtain ⟨n, hn', rfl⟩ := map_get hd
    have hk := (List.getElem?_eq_some_iff.mp hn').1
    have bn := hn n (mem_at hn')
    refine ⟨_, _, tg_name, ?_⟩
    refine r_set (ev_is (ev_cat (xs := ys.map D.int) (ys := [.int (max n 0), .int (max (0 - n) 0)]) (by rw [List.length_map]; show _ + 2 ≤ _; omega) (ev_var rfl) (ev_lstD (ea_consD (ev_max (ev_var rfl) ev_int) (ea_consD (ev_max (ev_sub ev_int (ev_var rfl)) ev_int) ea_nil)) (by show 2 ≤ 100000; decide)).toD).toD (d' := dl (ys ++ [max n 0, max (0 - n) 0])) (by unfold dl; rw [List.map_append] <;> rfl)) fun d e => ?_
    subst e
    refine ⟨_, _, rfl, by rw [List.length_append, h1] <;> rfl, fun y hy => ?_⟩
    rcases List.mem_append.mp hy with hy | hy
    · exact h2 y hy
    · rcases List.mem_cons.mp hy with rfl | hy
      · exact max_b (bn.mono (Nat.le_succ _)) Bd.zero
      · rw [List.mem_singleton.mp hy]
        exact max_b (Bd.sub Bd.zero bn) Bd.zero
  · rintro ρ1 ⟨x2, ys, rfl, h1, h2⟩
    rw [List.length_map] at h1
    exact r_retD (ev_var rfl) ⟨ys, rfl, h1, h2⟩

end
end Tx
end
section
set_option Elab.async false
set_option linter.all false
set_option maxRecDepth 100000
set_option maxHeartbeats 4000000
set_option autoImplicit false
set_option exponentiation.threshold 100000
/-! Wf: ints known by a property; promises of the drift. -/
namespace Tx
open PySem L2 Kr Kt Li Ra
def IntP (p : Int → Prop) (d : D) : Prop := ∃ i, d = .int i ∧ p i
section
variable {K : PySem.W.Frag} {ρ : Rho} {ta tb te : TE} {p q : Int → Prop}
theorem evp_is {i : Int} (h : EvD K ta ρ (.int i)) (k : p i) : EvR K ta ρ (IntP p) := h.mono fun d e => ⟨i, e, k⟩
theorem evp_mono {p q : Int → Prop} (h : EvR K ta ρ (IntP p)) (k : ∀ i, p i → q i) : EvR K ta ρ (IntP q) := h.mono fun d ⟨i, e, z⟩ => ⟨i, e, k i z⟩
theorem evp_mul {a b : Nat} (h0 : 0 < a) (h1 : 0 < b) (h : a + b ≤ 1000000) (ha : EvR K ta ρ (IntP (Bd a))) (hb : EvR K tb ρ (IntP (Bd b))) : EvR K (tOp (rMulX K) ta tb) ρ (IntP (Bd (a + b))) :=
  ev_opR ha hb fun x y ⟨i, ex, hi⟩ ⟨j, ey, hj⟩ => by
    subst ex; subst ey
    exact fun G H v u se h1' h2' Q q => .inl <| (od_I (C := CMulW) (g := fun i j => .int (i * j)) (e := .int (i * j)) (wide_mul hi hj h0 h1 h) (fun G => dt_int.mpr rfl)) G H v u se h1' h2' Q fun w G' H' d gr t e => q w G' H' d gr t ⟨i * j, e, hi.mul hj⟩
theorem evp_add {a : Nat} (ha : EvR K ta ρ (IntP (Bd a))) (hb : EvR K tb ρ (IntP (Bd a))) : EvR K (tOp (rAddX K) ta tb) ρ (IntP (Bd (a + 1))) :=
  ev_opR ha hb fun x y ⟨i, ex, hi⟩ ⟨j, ey, hj⟩ => by
    subst ex; subst ey
    exact fun G H v u se h1' h2' Q q => .inl <| (od_I0 (g := fun i j => .int (i + j)) (e := .int (i + j)) (fun G => dt_int.mpr rfl)) G H v u se h1' h2' Q fun w G' H' d gr t e => q w G' H' d gr t ⟨i + j, e, hi.add hj⟩
theorem evp_sub {a : Nat} (ha : EvR K ta ρ (IntP (Bd a))) (hb : EvR K tb ρ (IntP (Bd a))) : EvR K (tOp (rI0 fun i j => .int (i - j)) ta tb) ρ (IntP (Bd (a + 1))) :=
  ev_opR ha hb fun x y ⟨i, ex, hi⟩ ⟨j, ey, hj⟩ => by
    subst ex; subst ey
    exact fun G H v u se h1' h2' Q q => (od_I0 (g := fun i j => .int (i - j)) (e := .int (i - j)) (fun G => dt_int.mpr rfl)) G H v u se h1' h2' Q fun w G' H' d gr t e => q w G' H' d gr t ⟨i - j, e, hi.sub hj⟩
theorem all2_ints {F : D → D → Prop} {p : Int → Prop} : ∀ {ds es : List D}, All2 F ds es → (∀ d e, d ∈ ds → F d e → IntP p e) → ∃ ns : List Int, es = ns.map D.int ∧ ns.length = ds.length ∧ ∀ x ∈ ns, p x
  | _, _, .nil, _ => ⟨[], rfl, rfl, fun x h => nomatch h⟩
  | _, _, .cons (d := d) (e := e) a c, k => by
    obtain ⟨ns, e1, e2, h⟩ := all2_ints c fun d e hd => k d e (List.mem_cons_of_mem _ hd)
    obtain ⟨i, e3, hi⟩ := k d e List.mem_cons_self a
    refine ⟨i :: ns, by rw [e1, e3] <;> rfl, congrArg Nat.succ e2, fun x hx => ?_⟩
    rcases List.mem_cons.mp hx with rfl | hx
    · exact hi
    · exact h x hx
theorem ev_lcI {wi : TI} {g : TG} {vs js : List Nat} {ds : List D} (hi : EvI K wi ρ (fun x => x = ds)) (hz : ds.length ≤ 50000) (hj : ∀ j ∈ js, j ∈ vs)
    (hb : ∀ d, d ∈ ds → ∃ ρ1, Tgt K g js d (wipeR ρ vs) ρ1 ∧ EvR K te ρ1 (IntP p)) : EvN K (tLc wi g tYes te vs) ρ (fun es => ∃ ns : List Int, es = ns.map D.int ∧ ns.length = ds.length ∧ ∀ x ∈ ns, p x) :=
  (ev_lc (F := fun d e => IntP p e) hi (fun x e => by rw [e]; exact hz) hj fun x d e hd => hb d (by rw [← e]; exact hd)).mono fun es ⟨x, e, a⟩ => by
    subst e
    exact all2_ints a fun d e _ z => z
/-- lists of ints of one length, made -/
theorem all2_tbl {F : D → D → Prop} {n : Nat} {p : Int → Prop} : ∀ {ds es : List D}, All2 F ds es → (∀ d e, d ∈ ds → F d e → ∃ ns : List Int, e = dl ns ∧ ns.length = n ∧ ∀ x ∈ ns, p x) → ∃ rs : List (List Int), es = rs.map dl ∧ rs.length = ds.length ∧ (∀ r ∈ rs, r.length = n) ∧ ∀ r ∈ rs, ∀ x ∈ r, p x
  | _, _, .nil, _ => ⟨[], rfl, rfl, (fun r h => nomatch h), (fun r h => nomatch h)⟩
  | _, _, .cons (d := d) (e := e) a c, k => by
    obtain ⟨rs, e1, e2, h, h'⟩ := all2_tbl c fun d e hd => k d e (List.mem_cons_of_mem _ hd)
    obtain ⟨r, e3, hr, hp⟩ := k d e List.mem_cons_self a
    refine ⟨r :: rs, by rw [e1, e3] <;> rfl, congrArg Nat.succ e2, fun x hx => ?_, fun x hx => ?_⟩
    · rcases List.mem_cons.mp hx with rfl | hx
      · exact hr
      · exact h x hx
    · rcases List.mem_cons.mp hx with rfl | hx
      · exact hp
      · exact h' x hx
theorem ev_lcT {wi : TI} {g : TG} {vs js : List Nat} {ds : List D} {n : Nat} (hi : EvI K wi ρ (fun x => x = ds)) (hz : ds.length ≤ 50000) (hj : ∀ j ∈ js, j ∈ vs)
    (hb : ∀ d, d ∈ ds → ∃ ρ1, Tgt K g js d (wipeR ρ vs) ρ1 ∧ EvR K te ρ1 (fun e => ∃ ns : List Int, e = dl ns ∧ ns.length = n ∧ ∀ x ∈ ns, p x)) : EvN K (tLc wi g tYes te vs) ρ (fun es => ∃ rs : List (List Int), es = rs.map dl ∧ rs.length = ds.length ∧ (∀ r ∈ rs, r.length = n) ∧ ∀ r ∈ rs, ∀ x ∈ r, p x) :=
  (ev_lc (F := fun d e => ∃ ns : List Int, e = dl ns ∧ ns.length = n ∧ ∀ x ∈ ns, p x) hi (fun x e => by rw [e]; exact hz) hj fun x d e hd => hb d (by rw [← e]; exact hd)).mono fun es ⟨x, e, a⟩ => by
    subst e
    exact all2_tbl a fun d e _ z => z
/-- sum of a list of ints made -/
theorem evp_sum {a n : Nat} (h : EvN K ta ρ (fun es => ∃ ns : List Int, es = ns.map D.int ∧ ns.length = n ∧ ∀ x ∈ ns, Bd a x)) : EvR K (tCB (rSum K) (tCons ta tNil)) ρ (IntP (Bd (a + n))) :=
  (ev_sumR (P := fun ns => ns.length = n ∧ ∀ x ∈ ns, Bd a x) (h.toR.mono fun d ⟨ds, e, ns, e1, e2, e3⟩ => ⟨ns, by rw [e, e1], e2, e3⟩)).mono fun d ⟨ns, e, e2, e3⟩ => ⟨ns.sum, e, by rw [← e2]; exact sum_b ns e3⟩
theorem on_cat {xs ys : List D} {R : List D → Prop} (hz : xs.length + ys.length ≤ 100000) (hr : R (xs ++ ys)) : OpN K (rAddX K) (.lst xs) (.lst ys) R := OpN.r (OpN.l fun G H v u se h1 h2 Q q => by
  obtain ⟨a, vs, rfl, g1, t1⟩ := dt_lst.mp h1
  obtain ⟨b, us, rfl, g2, t2⟩ := dt_lst.mp h2
  have l1 := t1.length
  have l2 := t2.length
  refine ⟨a, b, vs, us, rfl, rfl, se _ _ g1, se _ _ g2, sz5 (by omega), fun p hp => ?_⟩
  exact q p _ G _ _ (.aside se hp) hp (Same.free se hp) upd_same (t1.append t2) hr)
theorem ev_catN {Ra Rb : List D → Prop} (hz : ∀ xs ys, Ra xs → Rb ys → xs.length + ys.length ≤ 100000) (ha : EvR K ta ρ (fun d => ∃ xs, d = .lst xs ∧ Ra xs)) (hb : EvR K tb ρ (fun d => ∃ xs, d = .lst xs ∧ Rb xs)) : EvN K (tOp (rAddX K) ta tb) ρ (fun ds => ∃ xs ys, ds = xs ++ ys ∧ Ra xs ∧ Rb ys) :=
  ev_opN ha hb fun x y ⟨xs, ex, hx⟩ ⟨ys, ey, hy⟩ => by
    subst ex; subst ey
    exact on_cat (hz xs ys hx hy) ⟨xs, ys, rfl, hx, hy⟩
/-- tuple(row + [y]) -/
theorem ev_rowN {row : List Int} (hz : row.length ≤ 1000) (ha : EvD K ta ρ (dl row)) (hb : EvR K tb ρ (IntP p)) : EvR K (tCB (rTupleX K) (tCons (tOp (rAddX K) ta (tLst (tCons tb tNil))) tNil)) ρ (fun d => ∃ y, d = dt (row ++ [y]) ∧ p y) := by
  have h1 : EvN K (tLst (tCons tb tNil)) ρ (fun ds => ∃ y : Int, ds = [.int y] ∧ p y) := ev_lst ((ea_cons hb ea_nil).mono fun ds ⟨d, r, e, ⟨y, e2, hy⟩, e3⟩ => ⟨y, by rw [e, e2, e3], hy⟩) fun ds ⟨y, e, _⟩ => by rw [e]; show 1 ≤ 100000; decide
  have h2 := ev_catN (Ra := fun xs => xs = row.map D.int) (Rb := fun ds => ∃ y : Int, ds = [.int y] ∧ p y) (fun xs ys e ⟨y, e2, _⟩ => by rw [e, e2, List.length_map, List.length_singleton]; omega) (ha.mono fun d e => ⟨_, e, rfl⟩) h1.toR
  refine (ev_tupleR (Rs := fun ds => ∃ y : Int, ds = (row ++ [y]).map D.int ∧ p y) (h2.toR.mono fun d ⟨ds, e, xs, ys, e1, e2, y, e3, hy⟩ => ⟨ds, e, y, ?_, hy⟩)).mono fun d ⟨xs, e, y, e2, h⟩ => ⟨y, by rw [e, e2], h⟩
  rw [e1, e2, e3, List.map_append] <;> rfl
theorem ev_ixSq {b : Bool} {ns : List Int} {k : Nat} {x : Int} (h : ns[k]? = some x) (ha : EvD K ta ρ (sq b ns)) (hb : EvD K tb ρ (.int k)) : EvD K (tOp (rIxX K) ta tb) ρ (.int x) := by
  cases b
  · exact ev_ixL (at_ints h) ha hb
  · exact ev_ixT (at_ints h) ha hb
end
theorem div_b {a : Nat} {x j : Int} (h : Bd a x) : Bd a (x / j) := Nat.lt_of_le_of_lt (Int.natAbs_ediv_le_natAbs x j) h
theorem rangeD_mem {n : Nat} {d : D} (h : d ∈ rangeD n) : ∃ k : Nat, k < n ∧ d = .int k := by
  obtain ⟨k, hk⟩ := List.mem_iff_getElem?.mp h
  obtain ⟨h1, h2⟩ := rangeD_get hk
  exact ⟨k, h1, h2⟩
/-- what the drift starts from -/
structure WfGoal (n : Nat) (g : List Int) (often step u : Int) : Prop where
  gl : g.length = n
  gb : ∀ c ∈ g, c.natAbs ≤ 2
  o1 : 1 ≤ often
  o3 : often ≤ 3
  s1 : 1 ≤ step
  sb : Bd 130 step
  u0 : 0 ≤ u
  ub : Bd 120 u
structure Told where
  bs : List (Int × Int)
  room : List (List Int)
  aims : List (List Int)
  measure : List Int
  top : Int
  turns : Int
structure WfTold (n : Nat) (o : Told) : Prop where
  bl : o.bs.length = n
  bw : WfBox 200 o.bs
  rl : o.room.length ≤ 1
  rw : ∀ r ∈ o.room, r.length = n + 1
  rb : ∀ r ∈ o.room, ∀ x ∈ r, Bd 500 x
  al : o.aims.length ≤ 2
  aw : ∀ r ∈ o.aims, r.length = n + 1
  ab : ∀ r ∈ o.aims, ∀ x ∈ r, Bd 500 x
  ml : o.measure.length = n + 1
  mb : ∀ x ∈ o.measure, Bd 500 x
  tb : Bd 600 o.top
  u0 : 0 ≤ o.turns
  ub : Bd 700 o.turns
abbrev toldD (o : Told) : D := .tup [prs o.bs, room o.room, room o.aims, dt o.measure, .int o.top, .int o.turns]
section
variable (K : PySem.W.Frag)
abbrev sp__law_drift_mode : Sp := spF K (fun a : List Int × List Int × List (Int × Int) × Int × Int => [dl a.1, dl a.2.1, prs a.2.2.1, .int a.2.2.2.1, .int a.2.2.2.2])
  (fun a => 4 ≤ a.1.length ∧ (∀ x ∈ a.1, 0 ≤ x ∧ Bd 150 x) ∧ 1 ≤ a.2.1.length ∧ a.2.1.length ≤ 3 ∧ (∀ c ∈ a.2.1, c.natAbs ≤ 2) ∧ (∃ c ∈ a.2.1, c ≠ 0) ∧ a.2.2.1.length ≤ 3 ∧ WfBox 200 a.2.2.1 ∧ 1 ≤ a.2.2.2.1 ∧ a.2.2.2.1 ≤ 3 ∧ Bd 130 a.2.2.2.2)
  (fun a r => ∃ m, r = mdT a.2.1.length m ∧ WfMd a.2.1.length a.2.2.1.length m)
abbrev sp__law_drift : Sp := spF K (fun ns : List Int => [.scr ns]) (fun _ => True) (fun _ r => ∃ (t : Th) (u : Int) (g : List Int) (often step : Int), r = .tup [spD t u, dl g, .int often, .int step] ∧ WfTh t ∧ WfGoal t.n g often step u)
abbrev sp__law_pushed : Sp := spF K (fun a : Th × Int × Md × Bool × List Int => [spD a.1 a.2.1, mdT a.1.n a.2.2.1, sq a.2.2.2.1 a.2.2.2.2])
  (fun a => WfTh a.1 ∧ WfMd a.1.n a.1.ps.length a.2.2.1 ∧ a.1.n ≤ a.2.2.2.2.length ∧ ∀ x ∈ a.2.2.2.2, Bd 500 x) (fun a r => ∃ xs, r = dl xs ∧ xs.length ≤ 20 ∧ ∀ x ∈ xs, Bd 1600 x)
abbrev sp__law_falling : Sp := spF K (fun a : Th × Int × List Int × Int × Int × Int => [spD a.1 a.2.1, dl a.2.2.1, .int a.2.2.2.1, .int a.2.2.2.2.1, .int a.2.2.2.2.2])
  (fun a => WfTh a.1 ∧ WfGoal a.1.n a.2.2.1 a.2.2.2.1 a.2.2.2.2.1 a.2.1) (fun a r => ∃ o, r = toldD o ∧ WfTold a.1.n o)
end
end Tx
end
section
set_option Elab.async false
set_option linter.all false
set_option maxRecDepth 100000
set_option maxHeartbeats 4000000
set_option autoImplicit false
set_option exponentiation.threshold 100000
/-! W8: the drift. -/
namespace Tx
open PySem L2 Kr Kt Li Ra
theorem sqs_pos : ∀ (g : List Int), (∃ c ∈ g, c ≠ 0) → 1 ≤ (g.map fun c => c * c).sum
  | [], ⟨c, h, _⟩ => nomatch h
  | x :: g, ⟨c, h, hc⟩ => by
    have nn : ∀ (g : List Int), 0 ≤ (g.map fun c => c * c).sum := fun g => by
      induction g with
      | nil => exact Int.le_refl _
      | cons y g ih =>
        rw [List.map_cons, List.sum_cons]
        have : 0 ≤ y * y := by
          rcases Int.le_total 0 y with h | h
          · exact Int.mul_nonneg h h
          · exact Int.mul_nonneg_of_nonpos_of_nonpos h h
        omega
    rw [List.map_cons, List.sum_cons]
    have sq1 : ∀ y : Int, y ≠ 0 → 1 ≤ y * y := fun y hy => by
      rcases Int.lt_or_gt_of_ne hy with h | h
      · have := Int.mul_pos_of_neg_of_neg h h; omega
      · have := Int.mul_pos h h; omega
    have sq0 : 0 ≤ x * x := by
      by_cases c0 : x = 0
      · rw [c0]; decide
      · have := sq1 x c0; omega
    have h1 := nn g
    rcases List.mem_cons.mp h with rfl | h
    · have := sq1 c hc; omega
    · have := sqs_pos g ⟨c, h, hc⟩; omega
section
variable {P : Program} {w : World} {K : PySem.W.Frag} {mg : Str → Option Value} {base : Heap} {f : Addr} {fd : FuncData}
theorem ok__law_drift_mode (T : Txt K mg) (F : FunD K "_law_drift_mode" "_law_drift_mode" (defArgs s_law_drift_mode) (defBody s_law_drift_mode) (defScope s_law_drift_mode) [] [] f fd) (k__law_number : Cal P w K mg base "_law_number" 1 ["_law_x", "_law_far"] (sp__law_number K)) : FnOk P w K mg base CX0 2 f fd ["_law_xs", "_law_goal", "_law_pushes", "_law_often", "_law_step"] (sp__law_drift_mode K) := by
  refine fn_ok F sc__law_drift_mode (fun _ => rfl) (fun cdv A' outer s H E hr => ⟨_, (pss_cons (ps_set (i := 5) sc__law_drift_mode.nd rfl (Or.inr rfl) (pe_callB (len_K (K := K) rfl) rfl T.m_len bt_len (pa_cons (pv 1) pa_nil)))
      (pss_cons (ps_set (i := 6) sc__law_drift_mode.nd rfl (Or.inr rfl) (pe_op (add_K (K := K) rfl) pe_int (pe_op op_mod (pe_ix (ix_K (K := K) rfl) (pv 0) pe_int (fun _ _ => rfl)) pe_int)))
      (pss_cons (ps_set (i := 7) sc__law_drift_mode.nd rfl (Or.inr rfl) (pe_lst pa_nil))
      (pss_cons (ps_for PassesOwn.never rfl (pi_range1 rfl T.m_range (pa_cons (pv 5) pa_nil)) (pg_name (i := 8) sc__law_drift_mode.nd rfl (Or.inr rfl)) (pss_one (ps_expr (pe_bm PySem.F.plainAttrs_list PySem.F.slot_list_append PySem.F.type_list_append mt_append (pv 7) (pa_cons (pe_lc (own := [("_law_j", 16)]) rfl sc__law_drift_mode.nd (pi_range1 rfl T.m_range (pa_cons (pe_callB (len_K (K := K) rfl) rfl T.m_len bt_len (pa_cons (pv 2) pa_nil)) pa_nil)) (blkOk_by (by kernel_rfl)) (fun _ _ _ _ _ => (pg_name (i := 16) sc__law_drift_mode.nd rfl (Or.inl rfl))) (fun _ _ _ _ _ => pts_nil) (fun _ _ _ _ _ => (pe_cal k__law_number (hr.mono (by decide)) rfl (pa_cons (pe_op op_fdivW (pe_ix (ix_K (K := K) rfl) (pv 0) pe_int (fun _ _ => rfl)) (pe_op (add_K (K := K) rfl) (pe_op (add_K (K := K) rfl) pe_int (pe_op (mul_K (K := K) rfl) pe_int (pv 8))) (pe_op (mul_K (K := K) rfl) pe_int (pv 16)))) (pa_cons pe_int pa_nil))))) pa_nil)))))
      (pss_cons (ps_setLc (i := 9) rfl sc__law_drift_mode.nd rfl rfl (sw_true rfl rfl rfl (by decide +kernel)) (own := [("_law_j", 16)]) (pi_range1 rfl T.m_range (pa_cons (pe_callB (len_K (K := K) rfl) rfl T.m_len bt_len (pa_cons (pv 2) pa_nil)) pa_nil)) (blkOk_by (by kernel_rfl)) (fun _ _ _ _ _ => (pg_name (i := 16) sc__law_drift_mode.nd rfl (Or.inr rfl))) (fun _ _ _ _ _ => pts_nil) (fun _ _ _ _ _ => (pe_op (mul_K (K := K) rfl) (pv 3) (pe_callB (sum_K (K := K) rfl rfl) rfl T.m_sum bt_sum (pa_cons (pe_lc (own := [("_law_i", 8)]) rfl sc__law_drift_mode.nd (pi_range1 rfl T.m_range (pa_cons (pv 5) pa_nil)) (blkOk_by (by kernel_rfl)) (fun _ _ _ _ _ => (pg_name (i := 8) sc__law_drift_mode.nd rfl (Or.inl rfl))) (fun _ _ _ _ _ => pts_nil) (fun _ _ _ _ _ => (pe_op (mul_K (K := K) rfl) (pe_ix (ix_K (K := K) rfl) (pv 1) (pv 8) (fun _ _ => rfl)) (pe_ix (ix_K (K := K) rfl) (pe_ix (ix_K (K := K) rfl) (pv 7) (pv 8) (fun _ _ => rfl)) (pv 16) (fun _ _ => rfl))))) pa_nil)))))
      (pss_cons (ps_set (i := 10) sc__law_drift_mode.nd rfl (Or.inl rfl) (pe_callB (sum_K (K := K) rfl rfl) rfl T.m_sum bt_sum (pa_cons (pe_lc (own := [("_law_c", 17), ("_law_low", 18), ("_law_high", 19)]) rfl sc__law_drift_mode.nd (zip_K (K := K) rfl rfl T.m_zip (pa_cons (pv 9) (pa_cons (pv 2) pa_nil))) (blkOk_by (by kernel_rfl)) (fun _ _ _ _ _ => (tup_K (K := K) (n := 2) rfl rfl (pgs_cons (pg_name (i := 17) sc__law_drift_mode.nd rfl (Or.inl rfl)) (pgs_cons (tup_K (K := K) (n := 2) rfl rfl (pgs_cons (pg_name (i := 18) sc__law_drift_mode.nd rfl (Or.inl rfl)) (pgs_cons (pg_name (i := 19) sc__law_drift_mode.nd rfl (Or.inl rfl)) pgs_nil))) pgs_nil)))) (fun _ _ _ _ _ => pts_nil) (fun _ _ _ _ _ => (pe_callB (call_max2 rfl) rfl T.m_max bt_max (pa_cons (pe_op (mul_K (K := K) rfl) (pv 17) (pv 18)) (pa_cons (pe_op (mul_K (K := K) rfl) (pv 17) (pv 19)) pa_nil))))) pa_nil)))
      (pss_cons (ps_set (i := 11) sc__law_drift_mode.nd rfl (Or.inl rfl) (pe_op (mul_K (K := K) rfl) (pv 3) (pe_callB (sum_K (K := K) rfl rfl) rfl T.m_sum bt_sum (pa_cons (pe_lc (own := [("_law_c", 17)]) rfl sc__law_drift_mode.nd (seq_K (K := K) rfl (pv 1)) (blkOk_by (by kernel_rfl)) (fun _ _ _ _ _ => (pg_name (i := 17) sc__law_drift_mode.nd rfl (Or.inl rfl))) (fun _ _ _ _ _ => pts_nil) (fun _ _ _ _ _ => (pe_op (mul_K (K := K) rfl) (pv 17) (pv 17)))) pa_nil))))
      (pss_cons (ps_set (i := 12) sc__law_drift_mode.nd rfl (Or.inr rfl) (pe_op op_sub pe_int (pe_op op_fdivW (pe_op op_sub (pe_op op_sub pe_int (pv 10)) (pe_op (mul_K (K := K) rfl) (pv 6) (pv 4))) (pv 11))))
      (pss_cons (ps_setLc (i := 13) rfl sc__law_drift_mode.nd rfl rfl (sw_true rfl rfl rfl (by decide +kernel)) (own := [("_law_i", 8)]) (pi_range1 rfl T.m_range (pa_cons (pv 5) pa_nil)) (blkOk_by (by kernel_rfl)) (fun _ _ _ _ _ => (pg_name (i := 8) sc__law_drift_mode.nd rfl (Or.inr rfl))) (fun _ _ _ _ _ => pts_nil) (fun _ _ _ _ _ => (pe_lc (own := [("_law_j", 16)]) rfl sc__law_drift_mode.nd (pi_range1 rfl T.m_range (pa_cons (pv 5) pa_nil)) (blkOk_by (by kernel_rfl)) (fun _ _ _ _ _ => (pg_name (i := 16) sc__law_drift_mode.nd rfl (Or.inl rfl))) (fun _ _ _ _ _ => pts_nil) (fun _ _ _ _ _ => (pe_op (mul_K (K := K) rfl) (pv 6) (pe_callTy call_int1 rfl T.m_int bt_int (pa_cons (pe_cmpR (eq_K (K := K) rfl hr.units) (pv 8) (pv 16) (nomark _)) pa_nil)))))))
      (pss_cons (ps_set (i := 14) sc__law_drift_mode.nd rfl (Or.inl rfl) (pe_lst pa_nil))
      (pss_cons (ps_if (pt_cmpR (eq_K (K := K) rfl hr.units) (pe_op op_mod (pe_ix (ix_K (K := K) rfl) (pv 0) pe_int (fun _ _ => rfl)) pe_int) pe_int (nomark _)) (pss_cons (ps_setLc (i := 15) rfl sc__law_drift_mode.nd rfl rfl (sw_true rfl rfl rfl (by decide +kernel)) (own := [("_law_i", 8)]) (pi_range1 rfl T.m_range (pa_cons (pv 5) pa_nil)) (blkOk_by (by kernel_rfl)) (fun _ _ _ _ _ => (pg_name (i := 8) sc__law_drift_mode.nd rfl (Or.inl rfl))) (fun _ _ _ _ _ => pts_nil) (fun _ _ _ _ _ => (pe_cal k__law_number (hr.mono (by decide)) rfl (pa_cons (pe_op op_fdivW (pe_ix (ix_K (K := K) rfl) (pv 0) pe_int (fun _ _ => rfl)) (pe_op (add_K (K := K) rfl) pe_int (pe_op (mul_K (K := K) rfl) pe_int (pv 8)))) (pa_cons pe_int pa_nil)))))
      (pss_one (ps_expr (pe_bm PySem.F.plainAttrs_list PySem.F.slot_list_append PySem.F.type_list_append mt_append (pv 14) (pa_cons (pe_callTy (tuple_K (K := K) rfl) rfl T.m_tuple bt_tuple (pa_cons (pe_op (add_K (K := K) rfl) (pv 15) (pe_lst (pa_cons (pe_op (mul_K (K := K) rfl) (pe_cal k__law_number (hr.mono (by decide)) rfl (pa_cons (pe_ix (ix_K (K := K) rfl) (pv 0) pe_int (fun _ _ => rfl)) (pa_cons pe_int pa_nil))) (pv 4)) pa_nil))) pa_nil)) pa_nil))))) pss_nil)
      (pss_one (ps_ret (pe_tup (pa_cons (pv 14) (pa_cons (pv 13) (pa_cons (pe_op (mul_K (K := K) rfl) (pe_lst (pa_cons pe_int pa_nil)) (pv 5)) (pa_cons (pv 7) (pa_cons (pe_lc (own := [("_law_c", 17)]) rfl sc__law_drift_mode.nd (seq_K (K := K) rfl (pv 1)) (blkOk_by (by kernel_rfl)) (fun _ _ _ _ _ => (pg_name (i := 17) sc__law_drift_mode.nd rfl (Or.inl rfl))) (fun _ _ _ _ _ => pts_nil) (fun _ _ _ _ _ => (pe_op op_sub pe_int (pe_op (mul_K (K := K) rfl) (pv 17) (pv 12))))) (pa_cons (pv 6) pa_nil)))))))))))))))))))), ?_⟩)
  rintro ⟨xs, g, ps, o, s⟩ ⟨hx4, hxb, g1, g3, gb, gz, pl, pb, o1, o3, sb⟩
  have hx4 : 4 ≤ xs.length := hx4
  have g1 : 1 ≤ g.length := g1
  have g3 : g.length ≤ 3 := g3
  have gb : ∀ c ∈ g, c.natAbs ≤ 2 := gb
  have gz : ∃ c ∈ g, c ≠ 0 := gz
  have pl : ps.length ≤ 3 := pl
  have pb : WfBox 200 ps := pb
  have o1 : 1 ≤ o := o1
  have o3 : o ≤ 3 := o3
  have sb : Bd 130 s := sb
  have bo : Bd 7 o := small_b (by omega) (by decide)
  have bg : ∀ c ∈ g, Bd 7 c := fun c hc => small_b (by have := gb c hc; omega) (by decide)
  obtain ⟨x0, h0, _⟩ := get_ex (r := xs) (k := 0) (by omega)
  obtain ⟨x1, h1, _⟩ := get_ex (r := xs) (k := 1) (by omega)
  obtain ⟨x2, h2, _⟩ := get_ex (r := xs) (k := 2) (by omega)
  obtain ⟨x3, h3, _⟩ := get_ex (r := xs) (k := 3) (by omega)
  refine rq_setD (d := .int g.length) (ev_is (ev_len (ev_var rfl)) (by rw [List.length_map])) ?_
  refine rq_setD (ev_add ev_int (ev_mod (by decide) (ev_ixL (at_ints h0) (ev_var rfl) ev_int) ev_int)) ?_
  have q0 := mod_lt (x := x0) (m := 3) (by decide)
  obtain ⟨v, hv⟩ : ∃ v, v = 1 + x0 % 3 := ⟨_, rfl⟩
  rw [← hv]
  have v1 : 1 ≤ v := by omega
  have bv : Bd 7 v := small_b (by omega) (by decide)
  refine rq_ownD ev_nil fun a => ?_
  refine rq_forD (ei_range (n := g.length) (by omega) (by omega) (ev_var rfl)) (fun k ρ => ∃ (x8 : Option Sl) (rs : List (List Int)), ρ = [some (.p (dl xs)), some (.p (dl g)), some (.p (prs ps)), some (.p (.int o)), some (.p (.int s)), some (.p (.int g.length)), some (.p (.int v)), some (.o a (rs.map dl)), x8, none, none, none, none, none, none, none, none, none, none, none] ∧ rs.length = k ∧ (∀ r ∈ rs, r.length = ps.length) ∧ ∀ r ∈ rs, ∀ x ∈ r, Bd 7 x) ⟨none, [], rfl, rfl, (fun r h => nomatch h), (fun r h => nomatch h)⟩ ?_ ?_
  · rintro k d ρ1 hd ⟨x8, rs, rfl, hl, hw, hb⟩
    obtain ⟨hk, rfl⟩ := rangeD_get hd
    have hk : k < g.length := by omega
    refine ⟨_, _, tg_name, r_app (i := 7) rfl (by rw [List.length_map]; omega) (ev_lcI (p := Bd 7) (ei_range (n := ps.length) (by omega) (by omega) (ev_is (ev_len (ev_var rfl)) (by rw [List.length_map]))) (by rw [rangeD_len]; omega) (fun _ h => h) fun d hd => ?_).toR ?_⟩
    · obtain ⟨j, hj, rfl⟩ := rangeD_mem hd
      have hj : j < 3 := by omega
      refine ⟨_, tg_name, (ev_callD (x1 / (1 + 7 * (k : Int) + 3 * (j : Int)), 2) (ea_consD (ev_div (by omega) (lg_small (by omega)) (ev_ixL (at_ints h1) (ev_var rfl) ev_int) (ev_add (ev_add ev_int (ev_mul (a := 7) (b := 7) (small_b (by decide) (by decide)) (small_b (by omega) (by decide)) (by decide) (by decide) (by decide) ev_int (ev_var rfl))) (ev_mul (a := 7) (b := 7) (small_b (by decide) (by decide)) (small_b (by omega) (by decide)) (by decide) (by decide) (by decide) ev_int (ev_var rfl)))) (ea_consD ev_int ea_nil)) (by show 2 ≤ 100; decide)).mono fun d ⟨i, e, hi⟩ => ⟨i, e, small_b (by have : i.natAbs ≤ 2 := hi; omega) (by decide)⟩⟩
    · rintro d ⟨ds, rfl, ns, rfl, ln, bn⟩
      rw [rangeD_len, Int.toNat_natCast] at ln
      refine ⟨_, rs ++ [ns], by rw [List.map_append] <;> rfl, by rw [List.length_append, hl] <;> rfl, fun r hr => ?_, fun r hr => ?_⟩
      · rcases List.mem_append.mp hr with hr | hr
        · exact hw r hr
        · rw [List.mem_singleton.mp hr]; exact ln
      · rcases List.mem_append.mp hr with hr | hr
        · exact hb r hr
        · rw [List.mem_singleton.mp hr]; exact bn
  rintro ρ1 ⟨x8, push, rfl, hl, hw, hb⟩
  rw [rangeD_len, Int.toNat_natCast] at hl
  refine r_freeze (i := 7) rfl ?_
  refine rq_set (R := fun d => ∃ ns : List Int, d = dl ns ∧ ns.length = ps.length ∧ ∀ x ∈ ns, Bd 50 x) ((ev_lcI (p := Bd 50) (ei_range (n := ps.length) (by omega) (by omega) (ev_is (ev_len (ev_var rfl)) (by rw [List.length_map]))) (by rw [rangeD_len]; omega) (fun _ h => h) fun d hd => ?_).toR.mono fun d ⟨ds, e, ns, e2, e3, e4⟩ => ⟨ns, by rw [e, e2], by rw [e3, rangeD_len, Int.toNat_natCast], e4⟩) ?_
  · obtain ⟨j, hj, rfl⟩ := rangeD_mem hd
    have hj : j < ps.length := by omega
    refine ⟨_, tg_name, evp_mono (evp_mul (a := 7) (b := 14 + (rangeD (g.length : Int).toNat).length) (by decide) (by omega) (by rw [rangeD_len]; omega) (evp_is (ev_var rfl) bo) (evp_sum (a := 14) (ev_lcI (p := Bd 14) (ei_range (n := g.length) (by omega) (by omega) (ev_var rfl)) (by rw [rangeD_len]; omega) (fun _ h => h) fun d hd => ?_))) fun i h => Bd.mono h (by rw [rangeD_len]; omega)⟩
    obtain ⟨i, hi, rfl⟩ := rangeD_mem hd
    have hi : i < g.length := by omega
    obtain ⟨c, hc, mc⟩ := get_ex hi
    obtain ⟨r, hr, mr⟩ := get_ex (r := push) (k := i) (by omega)
    obtain ⟨y, hy, my⟩ := get_ex (r := r) (k := j) (by rw [hw r mr]; exact hj)
    exact ⟨_, tg_name, evp_is (ev_mul (bg c mc) (hb r mr y my) (by decide) (by decide) (by decide) (ev_ixL (at_ints hc) (ev_var rfl) (ev_var rfl)) (ev_ixL (at_ints hy) (ev_ixL (at_nat (by rw [List.getElem?_map, hr] <;> rfl)) (ev_var rfl) (ev_var rfl)) (ev_var rfl))) ((bg c mc).mul (hb r mr y my))⟩
  rintro d ⟨ph, rfl, lph, bph⟩
  refine rq_set (R := IntP (Bd 300)) (evp_mono (evp_sum (a := 250) (ev_lcI (p := Bd 250) (ei_zip (xs := ph.map D.int) (ys := ps.map fun b => .tup [.int b.1, .int b.2]) (.inl rfl) (.inl rfl) (ev_var rfl) (ev_var rfl)) (by rw [zipD_len, List.length_map, List.length_map]; omega) (fun _ h => h) fun d hd => ?_)) fun i h => Bd.mono h (by rw [zipD_len, List.length_map, List.length_map]; omega)) ?_
  · obtain ⟨k, hk⟩ := List.mem_iff_getElem?.mp hd
    obtain ⟨x, y, hx, hy, rfl⟩ := zipD_get hk
    obtain ⟨c, hc, rfl⟩ := map_get hx
    obtain ⟨b, hb', rfl⟩ := map_get hy
    obtain ⟨b1, b2⟩ := pb.bd b (mem_at hb')
    have bc := bph c (mem_at hc)
    exact ⟨_, tg_tup rfl (tgs_cons tg_name (tgs_cons (tg_tup rfl (tgs_cons tg_name (tgs_cons tg_name tgs_nil))) tgs_nil)), evp_is (ev_max (ev_mul bc b1 (by decide) (by decide) (by decide) (ev_var rfl) (ev_var rfl)) (ev_mul bc b2 (by decide) (by decide) (by decide) (ev_var rfl) (ev_var rfl))) (max_b (bc.mul b1) (bc.mul b2))⟩
  rintro d ⟨wp, rfl, bwp⟩
  have ss : Bd 17 (g.map fun c => c * c).sum := (sum_b (c := 14) (g.map fun c => c * c) fun x hx => by
    obtain ⟨c, hc, rfl⟩ := List.mem_map.mp hx
    exact (bg c hc).mul (bg c hc)).mono (by rw [List.length_map]; omega)
  have sp := sqs_pos g gz
  refine rq_setD (d := .int (o * (g.map fun c => c * c).sum)) (ev_mul bo ss (by decide) (by decide) (by decide) (ev_var rfl) (ev_sum (ev_is (ev_lcD (fun d => match d with | .int i => .int (i * i) | d => d) (ei_lst (ev_var rfl)) (by rw [List.length_map]; omega) (fun _ h => h) fun d hd => ?_).toD ?_))) ?_
  · obtain ⟨c, hc, rfl⟩ := List.mem_map.mp hd
    exact ⟨_, tg_name, ev_mul (bg c hc) (bg c hc) (by decide) (by decide) (by decide) (ev_var rfl) (ev_var rfl)⟩
  · show D.lst _ = D.lst _
    rw [List.map_map, List.map_map] <;> rfl
  have zp : 0 < o * (g.map fun c => c * c).sum := Int.mul_pos (by omega) (by omega)
  have zb : Bd 24 (o * (g.map fun c => c * c).sum) := bo.mul ss
  obtain ⟨z, hz⟩ : ∃ z, z = o * (g.map fun c => c * c).sum := ⟨_, rfl⟩
  rw [← hz] at zp zb ⊢
  refine rq_setD (ev_sub ev_int (ev_div zp (Nat.lt_of_lt_of_le (zb.log (by decide)) (by decide)) (ev_sub (ev_sub ev_int (ev_var rfl)) (ev_mul bv sb (by decide) (by decide) (by decide) (ev_var rfl) (ev_var rfl))) (ev_var rfl))) ?_
  have bf : Bd 400 (0 - (0 - wp - v * s) / z) := (Bd.sub (a := 302) Bd.zero ((div_b (Bd.sub (a := 301) (Bd.sub (a := 300) Bd.zero bwp) ((bv.mul sb).mono (by decide)))))).mono (by decide)
  obtain ⟨far, hf⟩ : ∃ far, far = 0 - (0 - wp - v * s) / z := ⟨_, rfl⟩
  rw [← hf] at bf ⊢
  refine rq_set (R := fun d => ∃ rs : List (List Int), d = tbl rs ∧ rs.length = g.length ∧ (∀ r ∈ rs, r.length = g.length) ∧ ∀ r ∈ rs, ∀ x ∈ r, Bd 14 x) ((ev_lcT (n := g.length) (p := Bd 14) (ei_range (n := g.length) (by omega) (by omega) (ev_var rfl)) (by rw [rangeD_len]; omega) (fun _ h => h) fun d hd => ?_).toR.mono fun d ⟨ds, e, ns, e2, e3, e4, e5⟩ => ⟨ns, by rw [e, e2], by rw [e3, rangeD_len, Int.toNat_natCast], e4, e5⟩) ?_
  · obtain ⟨i, hi, rfl⟩ := rangeD_mem hd
    refine ⟨_, tg_name, (ev_lcI (p := Bd 14) (ei_range (n := g.length) (by omega) (by omega) (ev_var rfl)) (by rw [rangeD_len]; omega) (fun _ h => h) fun d hd => ?_).toR.mono fun d ⟨ds, e, ns, e2, e3, e4⟩ => ⟨ns, by rw [e, e2], by rw [e3, rangeD_len, Int.toNat_natCast], e4⟩⟩
    obtain ⟨j, hj, rfl⟩ := rangeD_mem hd
    have bb : Bd 7 (if decide ((i : Int) = j) = true then (1 : Int) else 0) := small_b (by split <;> decide) (by decide)
    exact ⟨_, tg_name, evp_is (ev_mul bv bb (by decide) (by decide) (by decide) (ev_var rfl) (ev_intB (ev_eqI (ev_var rfl) (ev_var rfl)))) (bv.mul bb)⟩
  rintro d ⟨nexts, rfl, nl, nw, nb⟩
  refine rq_ownD ev_nil fun a2 => ?_
  refine r_seq (fun ρ => ∃ (x8 x15 : Option Sl) (rows : List (List Int)), ρ = [some (.p (dl xs)), some (.p (dl g)), some (.p (prs ps)), some (.p (.int o)), some (.p (.int s)), some (.p (.int g.length)), some (.p (.int v)), some (.p (tbl push)), x8, some (.p (dl ph)), some (.p (.int wp)), some (.p (.int z)), some (.p (.int far)), some (.p (tbl nexts)), some (.o a2 (rows.map dt)), x15, none, none, none, none] ∧ rows.length ≤ 1 ∧ (∀ r ∈ rows, r.length = g.length + 1) ∧ ∀ r ∈ rows, ∀ x ∈ r, Bd 200 x) ?_ ?_
  · refine r_if (etD (ev_eqI (ev_mod (by decide) (ev_ixL (at_ints h2) (ev_var rfl) ev_int) ev_int) ev_int)) (fun _ => ?_) (fun _ => r_next ⟨_, _, [], rfl, Nat.zero_le _, (fun r h => nomatch h), (fun r h => nomatch h)⟩)
    refine rq_set (R := fun d => ∃ ns : List Int, d = dl ns ∧ ns.length = g.length ∧ ∀ x ∈ ns, Bd 7 x) ((ev_lcI (p := Bd 7) (ei_range (n := g.length) (by omega) (by omega) (ev_var rfl)) (by rw [rangeD_len]; omega) (fun _ h => h) fun d hd => ?_).toR.mono fun d ⟨ds, e, ns, e2, e3, e4⟩ => ⟨ns, by rw [e, e2], by rw [e3, rangeD_len, Int.toNat_natCast], e4⟩) ?_
    · obtain ⟨i, hi, rfl⟩ := rangeD_mem hd
      have hi : i < 3 := by omega
      refine ⟨_, tg_name, (ev_callD (x3 / (1 + 5 * (i : Int)), 1) (ea_consD (ev_div (by omega) (lg_small (by omega)) (ev_ixL (at_ints h3) (ev_var rfl) ev_int) (ev_add ev_int (ev_mul (a := 7) (b := 7) (small_b (by decide) (by decide)) (small_b (by omega) (by decide)) (by decide) (by decide) (by decide) ev_int (ev_var rfl)))) (ea_consD ev_int ea_nil)) (by show 1 ≤ 100; decide)).mono fun d ⟨i, e, hi⟩ => ⟨i, e, small_b (by have : i.natAbs ≤ 1 := hi; omega) (by decide)⟩⟩
    rintro d ⟨row, rfl, lr, br⟩
    refine r_app (i := 14) (R := fun d => ∃ y : Int, d = dt (row ++ [y]) ∧ Bd 137 y) rfl (by decide) (ev_rowN (by omega) (ev_var rfl) (evp_mul (a := 7) (b := 130) (by decide) (by decide) (by decide) ((ev_callD (x2, 5) (ea_consD (ev_ixL (at_ints h2) (ev_var rfl) ev_int) (ea_consD ev_int ea_nil)) (by show 5 ≤ 100; decide)).mono fun d ⟨i, e, hi⟩ => ⟨i, e, small_b (by have : i.natAbs ≤ 5 := hi; omega) (by decide)⟩) (evp_is (ev_var rfl) sb))) ?_
    · rintro d ⟨y, rfl, hy⟩
      refine ⟨_, _, [row ++ [y]], rfl, Nat.le_refl _, fun r hr => ?_, fun r hr x hx => ?_⟩
      · rw [List.mem_singleton.mp hr, List.length_append, lr] <;> rfl
      · rw [List.mem_singleton.mp hr] at hx
        rcases List.mem_append.mp hx with hx | hx
        · exact (br x hx).mono (by decide)
        · rw [List.mem_singleton.mp hx]; exact hy.mono (by decide)
  rintro ρ1 ⟨x8, x15, rows, rfl, rl, rw', rb⟩
  refine r_freeze (i := 14) rfl ?_
  refine r_retD (ev_tup (ds := mdF g.length ⟨rows, nexts, push, g.map fun c => 0 - c * far, v⟩) (ea_consD (ev_var rfl) (ea_consD (ev_var rfl) (ea_consD (ev_zeros (k := g.length) (by omega) (ev_var rfl)).toD (ea_consD (ev_var rfl) (ea_consD (ev_is (ev_lcD (fun d => match d with | .int i => .int (0 - i * far) | d => d) (ei_lst (ev_var rfl)) (by rw [List.length_map]; omega) (fun _ h => h) fun d hd => ?_).toD ?_) (ea_consD (ev_var rfl) ea_nil)))))) (by show 6 ≤ 100000; decide)) ⟨⟨rows, nexts, push, g.map fun c => 0 - c * far, v⟩, rfl, ?_⟩
  · obtain ⟨c, hc, rfl⟩ := List.mem_map.mp hd
    exact ⟨_, tg_name, ev_sub ev_int (ev_mul (bg c hc) bf (by decide) (by decide) (by decide) (ev_var rfl) (ev_var rfl))⟩
  · show D.lst _ = D.lst _
    rw [List.map_map, List.map_map] <;> rfl
  · exact {
      rl := by show rows.length ≤ 100; omega
      rw := rw'
      nl := nl
      nw := nw
      pl := hl
      pw := hw
      al := List.length_map ..
      dv := v1
      br := fun r hr x hx => (rb r hr x hx).mono (by decide)
      bn := fun r hr x hx => (nb r hr x hx).mono (by decide)
      bp := fun r hr x hx => (hb r hr x hx).mono (by decide)
      ba := fun x hx => by
        obtain ⟨c, hc, rfl⟩ := List.mem_map.mp hx
        exact (Bd.sub (a := 407) Bd.zero ((bg c hc).mul bf)).mono (by decide)
      bd := bv.mono (by decide)
      d7 := bv }

end
end Tx
end
section
set_option Elab.async false
set_option linter.all false
set_option maxRecDepth 100000
set_option maxHeartbeats 4000000
set_option autoImplicit false
set_option exponentiation.threshold 100000
/-! W9: the drift, its falling. -/
namespace Tx
open PySem L2 Kr Kt Li Ra
theorem cp15 : CPow 10 15 := by unfold CPow; decide +kernel
section
variable {K : PySem.W.Frag} {ρ : Rho} {ta tb te : TE}
theorem ev_rowD {row : List Int} {y : Int} (hz : row.length ≤ 1000) (ha : EvD K ta ρ (dl row)) (hb : EvD K tb ρ (.int y)) : EvD K (tCB (rTupleX K) (tCons (tOp (rAddX K) ta (tLst (tCons tb tNil))) tNil)) ρ (dt (row ++ [y])) :=
  (ev_rowN (p := fun z => z = y) hz ha (evp_is hb rfl)).mono fun d ⟨z, e, e2⟩ => by rw [e, e2]
end
theorem unit_pick (x : Int) : ∃ c : Int, L2.atI [D.int 3, D.int 9, D.int (10 ^ (15 : Int).toNat), D.int (10 ^ (30 : Int).toNat)] (x % 4) = some (.int c) ∧ 0 < c ∧ Bd 110 c := by
  have h := mod_lt (x := x) (m := 4) (by decide)
  have h3 : x % 4 = 0 ∨ x % 4 = 1 ∨ x % 4 = 2 ∨ x % 4 = 3 := by omega
  rcases h3 with h | h | h | h <;> rw [h]
  · exact ⟨3, rfl, by decide, by unfold Bd; decide +kernel⟩
  · exact ⟨9, rfl, by decide, by unfold Bd; decide +kernel⟩
  · exact ⟨10 ^ (15 : Int).toNat, rfl, by decide +kernel, by unfold Bd; decide +kernel⟩
  · exact ⟨10 ^ (30 : Int).toNat, rfl, by decide +kernel, by unfold Bd; decide +kernel⟩
theorem pick2 (x : Int) (a b : Int) : ∃ c : Int, L2.atI [D.int a, D.int b] (x % 2) = some (.int c) ∧ (c = a ∨ c = b) := by
  have h := mod_lt (x := x) (m := 2) (by decide)
  have h3 : x % 2 = 0 ∨ x % 2 = 1 := by omega
  rcases h3 with h | h <;> rw [h]
  · exact ⟨a, rfl, .inl rfl⟩
  · exact ⟨b, rfl, .inr rfl⟩
section
variable {P : Program} {w : World} {K : PySem.W.Frag} {mg : Str → Option Value} {base : Heap} {f : Addr} {fd : FuncData}
theorem ok__law_pushed (T : Txt K mg) (F : FunD K "_law_pushed" "_law_pushed" (defArgs s_law_pushed) (defBody s_law_pushed) (defScope s_law_pushed) [] [] f fd) (k__law_both : Cal P w K mg base "_law_both" 1 ["_law_numbers"] (sp__law_both K)) : FnOk P w K mg base CX0 2 f fd ["_law_spec", "_law_mode", "_law_numbers"] (sp__law_pushed K) := by
  refine fn_ok F sc__law_pushed (fun _ => rfl) (fun cdv A' outer s H E hr => ⟨_, (pss_cons (ps_asg (pv 1) (tup_K (K := K) (n := 6) rfl rfl (pgs_cons (pg_name (i := 3) sc__law_pushed.nd rfl (Or.inl rfl)) (pgs_cons (pg_name (i := 4) sc__law_pushed.nd rfl (Or.inl rfl)) (pgs_cons (pg_name (i := 5) sc__law_pushed.nd rfl (Or.inl rfl)) (pgs_cons (pg_name (i := 6) sc__law_pushed.nd rfl (Or.inr rfl)) (pgs_cons (pg_name (i := 7) sc__law_pushed.nd rfl (Or.inl rfl)) (pgs_cons (pg_name (i := 8) sc__law_pushed.nd rfl (Or.inl rfl)) pgs_nil))))))))
      (pss_one (ps_ret (pe_cal k__law_both (hr.mono (by decide)) rfl (pa_cons (pe_lc (own := [("_law_j", 9)]) rfl sc__law_pushed.nd (pi_range1 rfl T.m_range (pa_cons (pe_callB (len_K (K := K) rfl) rfl T.m_len bt_len (pa_cons (pe_ix (ix_K (K := K) rfl) (pv 0) pe_int (fun _ _ => rfl)) pa_nil)) pa_nil)) (blkOk_by (by kernel_rfl)) (fun _ _ _ _ _ => (pg_name (i := 9) sc__law_pushed.nd rfl (Or.inr rfl))) (fun _ _ _ _ _ => pts_nil) (fun _ _ _ _ _ => (pe_callB (sum_K (K := K) rfl rfl) rfl T.m_sum bt_sum (pa_cons (pe_lc (own := [("_law_i", 10)]) rfl sc__law_pushed.nd (pi_range1 rfl T.m_range (pa_cons (pe_ix (ix_K (K := K) rfl) (pv 0) pe_int (fun _ _ => rfl)) pa_nil)) (blkOk_by (by kernel_rfl)) (fun _ _ _ _ _ => (pg_name (i := 10) sc__law_pushed.nd rfl (Or.inl rfl))) (fun _ _ _ _ _ => pts_nil) (fun _ _ _ _ _ => (pe_op (mul_K (K := K) rfl) (pe_ix (ix_K (K := K) rfl) (pv 2) (pv 10) (fun _ _ => rfl)) (pe_ix (ix_K (K := K) rfl) (pe_ix (ix_K (K := K) rfl) (pv 6) (pv 10) (fun _ _ => rfl)) (pv 9) (fun _ _ => rfl))))) pa_nil)))) pa_nil))))), ?_⟩)
  rintro ⟨t, u, m, s, ns⟩ ⟨h, wm, hl, hb⟩
  have hn : t.n ≤ 3 := h.n3
  have hp : t.ps.length ≤ 6 := h.pl
  have wm : WfMd t.n t.ps.length m := wm
  have hl : t.n ≤ ns.length := hl
  have pl := wm.pl
  refine rq_asg (R := fun d => d = mdT t.n m) (ev_var rfl) fun d e => ?_
  subst e
  refine ⟨_, _, tg_tup rfl (tgs_cons tg_name (tgs_cons tg_name (tgs_cons tg_name (tgs_cons tg_name (tgs_cons tg_name (tgs_cons tg_name tgs_nil)))))), ?_⟩
  refine r_ret (ev_call (ea_cons ((ev_lcI (p := Bd 1510) (ei_range (n := t.ps.length) (by omega) (by omega) (ev_is (ev_len (xs := t.ps.map fun b => .tup [.int b.1, .int b.2]) (ev_ixT rfl (ev_var rfl) ev_int)) (by rw [List.length_map]))) (by rw [rangeD_len]; omega) (fun _ h => h) fun d hd => ?_).toR) ea_nil) ?_)
  · obtain ⟨j, hj, rfl⟩ := rangeD_mem hd
    have hj : j < t.ps.length := by omega
    refine ⟨_, tg_name, evp_mono (evp_sum (a := 1500) (ev_lcI (p := Bd 1500) (ei_range (n := t.n) (by omega) (by omega) (ev_ixT rfl (ev_var rfl) ev_int)) (by rw [rangeD_len]; omega) (fun _ h => h) fun d hd => ?_)) fun i h => Bd.mono h (by rw [rangeD_len]; omega)⟩
    obtain ⟨i, hi, rfl⟩ := rangeD_mem hd
    have hi : i < t.n := by omega
    obtain ⟨c, hc, mc⟩ := get_ex (r := ns) (k := i) (by omega)
    obtain ⟨r, hr, mr⟩ := get_ex (r := m.push) (k := i) (by omega)
    obtain ⟨y, hy, my⟩ := get_ex (r := r) (k := j) (by rw [wm.pw r mr]; exact hj)
    exact ⟨_, tg_name, evp_is (ev_mul (hb c mc) (wm.bp r mr y my) (by decide) (by decide) (by decide) (ev_ixSq hc (ev_var rfl) (ev_var rfl)) (ev_ixL (at_ints hy) (ev_ixL (at_nat (by rw [List.getElem?_map, hr] <;> rfl)) (ev_var rfl) (ev_var rfl)) (ev_var rfl))) ((hb c mc).mul (wm.bp r mr y my))⟩
  · rintro ds ⟨d, r, rfl, ⟨es, rfl, xs, rfl, lx, bx⟩, rfl⟩
    rw [rangeD_len, Int.toNat_natCast] at lx
    refine ⟨(false, xs, 1510), rfl, ⟨by show xs.length ≤ 20; omega, bx⟩, fun d ⟨ys, e, ly, by_⟩ => ⟨ys, e, ?_, fun y hy => (by_ y hy).mono (by show 1511 ≤ 1600; decide)⟩⟩
    have ly : ys.length = 2 * xs.length := ly
    omega

theorem ok__law_drift (T : Txt K mg) (F : FunD K "_law_drift" "_law_drift" (defArgs s_law_drift) (defBody s_law_drift) (defScope s_law_drift) [] [] f fd) (k__law_drift_mode : Cal P w K mg base "_law_drift_mode" 2 ["_law_xs", "_law_goal", "_law_pushes", "_law_often", "_law_step"] (sp__law_drift_mode K)) (k__law_number : Cal P w K mg base "_law_number" 1 ["_law_x", "_law_far"] (sp__law_number K)) (k__law_cell_at : Cal P w K mg base "_law_cell_at" 1 ["_law_script", "_law_k"] (sp__law_cell_at K)) (k__law_stream : Cal P w K mg base "_law_stream" 1 ["_law_cell", "_law_many"] (sp__law_stream K)) : FnOk P w K mg base CX0 3 f fd ["_law_script"] (sp__law_drift K) := by
  refine fn_ok F sc__law_drift (fun _ => rfl) (fun cdv A' outer s H E hr => ⟨_, (pss_cons (ps_set (i := 1) sc__law_drift.nd rfl (Or.inl rfl) (pe_cal k__law_cell_at (hr.mono (by decide)) rfl (pa_cons (pv 0) (pa_cons pe_int pa_nil))))
      (pss_cons (ps_set (i := 2) sc__law_drift.nd rfl (Or.inr rfl) (pe_cal k__law_stream (hr.mono (by decide)) rfl (pa_cons (pe_cal k__law_cell_at (hr.mono (by decide)) rfl (pa_cons (pv 0) (pa_cons pe_int pa_nil))) (pa_cons pe_int pa_nil))))
      (pss_cons (ps_set (i := 3) sc__law_drift.nd rfl (Or.inl rfl) (pe_op (add_K (K := K) rfl) pe_int (pe_op op_mod (pe_op op_fdivW (pv 1) pe_int) (pe_ix (ix_K (K := K) rfl) (pe_lst (pa_cons pe_int (pa_cons pe_int (pa_cons (pe_op op_pow pe_int pe_int) (pa_cons (pe_op op_pow pe_int pe_int) pa_nil))))) (pe_op op_mod (pv 1) pe_int) (fun _ _ => rfl)))))
      (pss_cons (ps_set (i := 4) sc__law_drift.nd rfl (Or.inl rfl) (pe_op (add_K (K := K) rfl) (pe_op (add_K (K := K) rfl) pe_int (pe_op op_mod (pe_op op_mod (pe_ix (ix_K (K := K) rfl) (pv 2) pe_int (fun _ _ => rfl)) pe_int) pe_int)) (pe_op op_fdivW (pe_op op_mod (pe_op op_fdivW (pe_ix (ix_K (K := K) rfl) (pv 2) pe_int (fun _ _ => rfl)) pe_int) pe_int) pe_int)))
      (pss_cons (ps_setLc (i := 5) rfl sc__law_drift.nd rfl rfl (sw_true rfl rfl rfl (by decide +kernel)) (own := [("_law_i", 11)]) (pi_range1 rfl T.m_range (pa_cons (pv 4) pa_nil)) (blkOk_by (by kernel_rfl)) (fun _ _ _ _ _ => (pg_name (i := 11) sc__law_drift.nd rfl (Or.inl rfl))) (fun _ _ _ _ _ => pts_nil) (fun _ _ _ _ _ => (pe_cal k__law_number (hr.mono (by decide)) rfl (pa_cons (pe_ix (ix_K (K := K) rfl) (pv 2) (pe_op (add_K (K := K) rfl) pe_int (pv 11)) (fun _ _ => rfl)) (pa_cons pe_int pa_nil)))))
      (pss_cons (ps_if (pt_cmpR (eq_K (K := K) rfl hr.units) (pv 5) (pe_op (mul_K (K := K) rfl) (pe_lst (pa_cons pe_int pa_nil)) (pv 4)) (nomark _)) (pss_one (ps_asg pe_int (pg_sub (pv 5) pe_int set_list))) pss_nil)
      (pss_cons (ps_set (i := 6) sc__law_drift.nd rfl (Or.inl rfl) (pe_lst pa_nil))
      (pss_cons (ps_for PassesOwn.never rfl (pi_range1 rfl T.m_range (pa_cons (pe_op op_mod (pe_ix (ix_K (K := K) rfl) (pv 2) pe_int (fun _ _ => rfl)) pe_int) pa_nil)) (pg_name (i := 7) sc__law_drift.nd rfl (Or.inl rfl)) (pss_one (ps_expr (pe_bm PySem.F.plainAttrs_list PySem.F.slot_list_append PySem.F.type_list_append mt_append (pv 6) (pa_cons (pe_tup (pa_cons (pe_op op_sub pe_int (pe_op (mul_K (K := K) rfl) (pe_op op_mod (pe_ix (ix_K (K := K) rfl) (pv 2) (pe_op (add_K (K := K) rfl) pe_int (pv 7)) (fun _ _ => rfl)) pe_int) (pv 3))) (pa_cons (pe_op (mul_K (K := K) rfl) (pe_op op_mod (pe_op op_fdivW (pe_ix (ix_K (K := K) rfl) (pv 2) (pe_op (add_K (K := K) rfl) pe_int (pv 7)) (fun _ _ => rfl)) pe_int) pe_int) (pv 3)) pa_nil))) pa_nil)))))
      (pss_cons (ps_set (i := 8) sc__law_drift.nd rfl (Or.inl rfl) (pe_op (add_K (K := K) rfl) pe_int (pe_op op_mod (pe_ix (ix_K (K := K) rfl) (pv 2) pe_int (fun _ _ => rfl)) pe_int)))
      (pss_cons (ps_set (i := 9) sc__law_drift.nd rfl (Or.inl rfl) (pe_op (add_K (K := K) rfl) pe_int (pe_op op_mod (pe_ix (ix_K (K := K) rfl) (pv 2) pe_int (fun _ _ => rfl)) (pe_ix (ix_K (K := K) rfl) (pe_lst (pa_cons pe_int (pa_cons (pv 3) pa_nil))) (pe_op op_mod (pe_ix (ix_K (K := K) rfl) (pv 2) pe_int (fun _ _ => rfl)) pe_int) (fun _ _ => rfl)))))
      (pss_cons (ps_set (i := 10) sc__law_drift.nd rfl (Or.inl rfl) (pe_lst pa_nil))
      (pss_cons (ps_for PassesOwn.never rfl (pi_range1 rfl T.m_range (pa_cons (pe_op (add_K (K := K) rfl) pe_int (pe_op op_mod (pe_ix (ix_K (K := K) rfl) (pv 2) pe_int (fun _ _ => rfl)) pe_int)) pa_nil)) (pg_name (i := 7) sc__law_drift.nd rfl (Or.inl rfl)) (pss_one (ps_expr (pe_bm PySem.F.plainAttrs_list PySem.F.slot_list_append PySem.F.type_list_append mt_append (pv 10) (pa_cons (pe_cal k__law_drift_mode (hr.mono (by decide)) rfl (pa_cons (pe_slice (sl_K (K := K) rfl) (pv 2) (po_some (pe_op (add_K (K := K) rfl) pe_int (pe_op (mul_K (K := K) rfl) pe_int (pv 7)))) po_none) (pa_cons (pv 5) (pa_cons (pv 6) (pa_cons (pv 8) (pa_cons (pv 9) pa_nil)))))) pa_nil)))))
      (pss_one (ps_ret (pe_tup (pa_cons (pe_tup (pa_cons (pv 4) (pa_cons (pv 6) (pa_cons (pv 10) (pa_cons (pv 3) pa_nil))))) (pa_cons (pv 5) (pa_cons (pv 8) (pa_cons (pv 9) pa_nil))))))))))))))))))), ?_⟩)
  intro sc _
  refine rq_setD (d := .int (sc.getD 0 0)) (ev_callD (sc, 0) (ea_consD (ev_var rfl) (ea_consD ev_int ea_nil)) trivial) ?_
  obtain ⟨x, hx⟩ : ∃ x, x = sc.getD 0 0 := ⟨_, rfl⟩
  rw [← hx]
  refine rq_set (ev_callD (sc.getD 1 0, 24) (ea_consD (ev_callD (sc, 1) (ea_consD (ev_var rfl) (ea_consD ev_int ea_nil)) trivial) (ea_consD ev_int ea_nil)) (by show 24 ≤ 100; decide)) ?_
  rintro d ⟨xs, rfl, lx, bx⟩
  have lx : xs.length = 24 := lx
  obtain ⟨c, hc, c0, cb⟩ := unit_pick x
  have q := mod_lt (x := x / 4) (m := c) c0
  refine rq_setD (ev_add ev_int (ev_mod c0 (ev_div (by decide) (lg_small (by decide)) (ev_var rfl) ev_int) (ev_ixL hc (ev_lstD (ea_consD ev_int (ea_consD ev_int (ea_consD (ev_pow cp15 ev_int ev_int) (ea_consD (ev_pow cp30 ev_int ev_int) ea_nil)))) (by show 4 ≤ 100000; decide)).toD (ev_mod (by decide) (ev_var rfl) ev_int)))) ?_
  have bu : Bd 111 (1 + x / 4 % c) := Bd.add (small_b (by decide) (by decide)) (mod_b cb c0).2
  obtain ⟨u, hu⟩ : ∃ u, u = 1 + x / 4 % c := ⟨_, rfl⟩
  rw [← hu] at bu ⊢
  have u1 : 1 ≤ u := by omega
  obtain ⟨x0, h0, _⟩ := get_ex (r := xs) (k := 0) (by omega)
  obtain ⟨x4, h4, _⟩ := get_ex (r := xs) (k := 4) (by omega)
  obtain ⟨x7, h7, _⟩ := get_ex (r := xs) (k := 7) (by omega)
  obtain ⟨x8, h8, _⟩ := get_ex (r := xs) (k := 8) (by omega)
  obtain ⟨x9, h9, _⟩ := get_ex (r := xs) (k := 9) (by omega)
  refine rq_setD (ev_add (ev_add ev_int (ev_mod (by decide) (ev_mod (by decide) (ev_ixL (at_ints h0) (ev_var rfl) ev_int) ev_int) ev_int)) (ev_div (by decide) (lg_small (by decide)) (ev_mod (by decide) (ev_div (by decide) (lg_small (by decide)) (ev_ixL (at_ints h0) (ev_var rfl) ev_int) ev_int) ev_int) ev_int)) ?_
  obtain ⟨n, hn, n1, n3⟩ : ∃ n : Nat, 1 + x0 % 3 % 2 + x0 / 6 % 8 / 7 = (n : Int) ∧ 1 ≤ n ∧ n ≤ 3 := ⟨(1 + x0 % 3 % 2 + x0 / 6 % 8 / 7).toNat, by omega, by omega, by omega⟩
  rw [hn]
  change Kt.Run K _ [some (.p (.scr sc)), some (.p (.int x)), some (.p (dl xs)), some (.p (.int u)), some (.p (.int n)), none, none, none, none, none, none, none] _
  refine rq_own (ev_lcI (p := fun i => i.natAbs ≤ 2) (ei_range (n := n) (by omega) (by omega) (ev_var rfl)) (by rw [rangeD_len]; omega) (fun _ h => h) fun d hd => ?_) ?_
  · obtain ⟨i, hi, rfl⟩ := rangeD_mem hd
    have hi : i < n := by omega
    obtain ⟨y, hy, _⟩ := get_ex (r := xs) (k := 1 + i) (by omega)
    exact ⟨_, tg_name, ev_callD (y, 2) (ea_consD (ev_ixL (at_ints hy) (ev_var rfl) (ev_is (ev_add ev_int (ev_var rfl)) rfl)) (ea_consD ev_int ea_nil)) (by show 2 ≤ 100; decide)⟩
  rintro a ds ⟨g0, rfl, lg, bg⟩
  rw [rangeD_len, Int.toNat_natCast] at lg
  refine r_seq (fun ρ => ∃ g : List Int, ρ = [some (.p (.scr sc)), some (.p (.int x)), some (.p (dl xs)), some (.p (.int u)), some (.p (.int n)), some (.o a (g.map D.int)), none, none, none, none, none, none] ∧ g.length = n ∧ (∀ c ∈ g, c.natAbs ≤ 2) ∧ ∃ c ∈ g, c ≠ 0) ?_ ?_
  · refine r_if (Rb := fun b => b = decide (g0 = Li.zeros n)) (et_view (i := 5) rfl (etD (ev_eqL (ev_var rfl) (ev_zeros (k := n) (by omega) (ev_var rfl)).toD))) (fun z => ?_) (fun z => r_next ⟨g0, rfl, lg, bg, ?_⟩)
    · have e : g0 = Li.zeros n := of_decide_eq_true z.symm
      refine r_setI (i := 5) (j := 0) rfl ?_ ev_int ev_int fun d e => ?_
      · rw [List.length_map, lg]
        unfold ixN
        rw [if_pos (by decide), if_pos (by omega)] <;> rfl
      · subst e
        refine ⟨g0.set 0 1, by rw [List.map_set] <;> rfl, by rw [List.length_set, lg], fun c hc => ?_, 1, ?_, by decide⟩
        · rcases List.mem_or_eq_of_mem_set hc with h | h
          · exact bg c h
          · rw [h]; decide
        · exact List.mem_iff_getElem?.mpr ⟨0, by rw [List.getElem?_set_self (by omega)]⟩
    · have e : ¬ g0 = Li.zeros n := of_decide_eq_false z.symm
      by_cases hc : ∃ c ∈ g0, c ≠ 0
      · exact hc
      · exact absurd (List.eq_replicate_iff.mpr ⟨lg, fun c h => by
          by_cases h0 : c = 0
          · exact h0
          · exact absurd ⟨c, h, h0⟩ hc⟩) e
  rintro ρ1 ⟨g, rfl, lg, bg, gz⟩
  refine r_freeze (i := 5) rfl ?_
  refine rq_ownD ev_nil fun a2 => ?_
  have q4 := mod_lt (x := x4) (m := 3) (by decide)
  refine rq_forD (ei_range (n := x4 % 3) (by omega) (by omega) (ev_mod (by decide) (ev_ixL (at_ints h4) (ev_var rfl) ev_int) ev_int)) (fun k ρ => ∃ (x7 : Option Sl) (bs : List (Int × Int)), ρ = [some (.p (.scr sc)), some (.p (.int x)), some (.p (dl xs)), some (.p (.int u)), some (.p (.int n)), some (.p (dl g)), some (.o a2 (bs.map fun b => .tup [.int b.1, .int b.2])), x7, none, none, none, none] ∧ bs.length = k ∧ WfBox 200 bs) ⟨none, [], rfl, rfl, ⟨(fun b hb => nomatch hb), (fun b hb => nomatch hb)⟩⟩ ?_ ?_
  · rintro k d ρ1 hd ⟨x7, bs, rfl, hl, hb⟩
    obtain ⟨hk, rfl⟩ := rangeD_get hd
    obtain ⟨y, hy, my⟩ := get_ex (r := xs) (k := 5 + k) (by omega)
    have r1 := mod_lt (x := y) (m := 3) (by decide)
    have r2 := mod_lt (x := y / 3) (m := 3) (by decide)
    have b1 : Bd 7 (y % 3) := small_b (by omega) (by decide)
    have b2 : Bd 7 (y / 3 % 3) := small_b (by omega) (by decide)
    have m1 : 0 ≤ y % 3 * u := Int.mul_nonneg r1.1 (by omega)
    have m2 : 0 ≤ y / 3 % 3 * u := Int.mul_nonneg r2.1 (by omega)
    refine ⟨_, _, tg_name, r_app (i := 6) rfl (by rw [List.length_map]; omega) (ev_tup (ds := [.int (0 - y % 3 * u), .int (y / 3 % 3 * u)]) (ea_consD (ev_sub ev_int (ev_mul b1 bu (by decide) (by decide) (by decide) (ev_mod (by decide) (ev_ixL (at_ints hy) (ev_var rfl) (ev_is (ev_add ev_int (ev_var rfl)) rfl)) ev_int) (ev_var rfl))) (ea_consD (ev_mul b2 bu (by decide) (by decide) (by decide) (ev_mod (by decide) (ev_div (by decide) (lg_small (by decide)) (ev_ixL (at_ints hy) (ev_var rfl) (ev_is (ev_add ev_int (ev_var rfl)) rfl)) ev_int) ev_int) (ev_var rfl)) ea_nil)) (by show 2 ≤ 100000; decide)) fun d e => ?_⟩
    subst e
    refine ⟨_, bs ++ [(0 - y % 3 * u, y / 3 % 3 * u)], by rw [List.map_append] <;> rfl, by rw [List.length_append, hl] <;> rfl, ⟨fun b hb' => ?_, fun b hb' => ?_⟩⟩
    · rcases List.mem_append.mp hb' with hb' | hb'
      · exact hb.le b hb'
      · rw [List.mem_singleton.mp hb']
        show 0 - y % 3 * u ≤ y / 3 % 3 * u
        omega
    · rcases List.mem_append.mp hb' with hb' | hb'
      · exact hb.bd b hb'
      · rw [List.mem_singleton.mp hb']
        exact ⟨(Bd.sub (a := 118) Bd.zero (b1.mul bu)).mono (by decide), (b2.mul bu).mono (by decide)⟩
  rintro ρ1 ⟨xk, bs, rfl, hl, hb⟩
  rw [rangeD_len] at hl
  refine r_freeze (i := 6) rfl ?_
  have r7 := mod_lt (x := x7) (m := 3) (by decide)
  refine rq_setD (ev_add ev_int (ev_mod (by decide) (ev_ixL (at_ints h7) (ev_var rfl) ev_int) ev_int)) ?_
  obtain ⟨o, ho⟩ : ∃ o, o = 1 + x7 % 3 := ⟨_, rfl⟩
  rw [← ho]
  obtain ⟨c8, hc8, hc8'⟩ := pick2 x8 1 u
  have c80 : 0 < c8 := by rcases hc8' with h | h <;> omega
  have c8b : Bd 111 c8 := by
    rcases hc8' with h | h <;> rw [h]
    · exact small_b (by decide) (by decide)
    · exact bu
  have r8 := mod_lt (x := x8) (m := c8) c80
  refine rq_setD (ev_add ev_int (ev_mod c80 (ev_ixL (at_ints h8) (ev_var rfl) ev_int) (ev_ixL hc8 (ev_lstD (ea_consD ev_int (ea_consD (ev_var rfl) ea_nil)) (by show 2 ≤ 100000; decide)).toD (ev_mod (by decide) (ev_ixL (at_ints h8) (ev_var rfl) ev_int) ev_int)))) ?_
  have bs' : Bd 112 (1 + x8 % c8) := Bd.add (small_b (by decide) (by decide)) (mod_b c8b c80).2
  obtain ⟨s, hs⟩ : ∃ s, s = 1 + x8 % c8 := ⟨_, rfl⟩
  rw [← hs] at bs' ⊢
  refine rq_ownD ev_nil fun a3 => ?_
  have r9 := mod_lt (x := x9) (m := 3) (by decide)
  refine rq_forD (ei_range (n := 1 + x9 % 3) (by omega) (by omega) (ev_add ev_int (ev_mod (by decide) (ev_ixL (at_ints h9) (ev_var rfl) ev_int) ev_int))) (fun k ρ => ∃ (x7 : Option Sl) (ms : List Md), ρ = [some (.p (.scr sc)), some (.p (.int x)), some (.p (dl xs)), some (.p (.int u)), some (.p (.int n)), some (.p (dl g)), some (.p (prs bs)), x7, some (.p (.int o)), some (.p (.int s)), some (.o a3 (ms.map (mdT n))), none] ∧ ms.length = k ∧ ∀ m ∈ ms, WfMd n bs.length m) ⟨_, [], rfl, rfl, (fun m hm => nomatch hm)⟩ ?_ ?_
  · rintro k d ρ1 hd ⟨x7', ms, rfl, hl', hm⟩
    obtain ⟨hk, rfl⟩ := rangeD_get hd
    have hk : k < 3 := by omega
    refine ⟨_, _, tg_name, r_app (i := 10) (R := fun d => ∃ m, d = mdT g.length m ∧ WfMd g.length bs.length m) rfl (by rw [List.length_map]; omega) (ev_callD (xs.drop (10 + 4 * k), g, bs, o, s) (ea_consD (ev_is (ev_slL (ev_var rfl) (eo_some (i := ((10 + 4 * k : Nat) : Int)) (ev_is (ev_add ev_int (ev_mul (a := 7) (b := 7) (small_b (by decide) (by decide)) (small_b (by omega) (by decide)) (by decide) (by decide) (by decide) ev_int (ev_var rfl))) (by show D.int _ = D.int _; congr 1))) eo_none).toD (by rw [cut_drop, ← List.map_drop])) (ea_consD (ev_var rfl) (ea_consD (ev_var rfl) (ea_consD (ev_var rfl) (ea_consD (ev_var rfl) ea_nil))))) ⟨?_, fun x hx => bx x (List.mem_of_mem_drop hx), by show 1 ≤ g.length; omega, by show g.length ≤ 3; omega, bg, gz, by show bs.length ≤ 3; omega, hb, by show 1 ≤ o; omega, by show o ≤ 3; omega, bs'.mono (by decide)⟩) ?_⟩
    · show 4 ≤ (xs.drop (10 + 4 * k)).length
      rw [List.length_drop]; omega
    · rintro d ⟨m, rfl, wm⟩
      rw [lg] at wm ⊢
      refine ⟨_, ms ++ [m], by rw [List.map_append] <;> rfl, by rw [List.length_append, hl'] <;> rfl, fun m' hm' => ?_⟩
      rcases List.mem_append.mp hm' with h | h
      · exact hm m' h
      · rw [List.mem_singleton.mp h]; exact wm
  rintro ρ1 ⟨x7', ms, rfl, hl', hm⟩
  rw [rangeD_len] at hl'
  refine r_freeze (i := 10) rfl ?_
  refine r_retD (ev_tup (ds := [spD ⟨n, bs, ms⟩ u, dl g, .int o, .int s]) (ea_consD (ev_tup (ds := [.int n, prs bs, .lst (ms.map (mdT n)), .int u]) (ea_consD (ev_var rfl) (ea_consD (ev_var rfl) (ea_consD (ev_var rfl) (ea_consD (ev_var rfl) ea_nil)))) (by show 4 ≤ 100000; decide)) (ea_consD (ev_var rfl) (ea_consD (ev_var rfl) (ea_consD (ev_var rfl) ea_nil)))) (by show 4 ≤ 100000; decide)) ⟨⟨n, bs, ms⟩, u, g, o, s, rfl, ?_, ?_⟩
  · exact {
      n1 := n1
      n3 := n3
      pl := by show bs.length ≤ 6; omega
      po := hb.le
      pb := fun b h => ⟨(hb.bd b h).1.mono (by decide), (hb.bd b h).2.mono (by decide)⟩
      m1 := by
        show ms ≠ []
        intro e
        rw [e] at hl'
        have : 0 = (1 + x9 % 3).toNat := hl'
        omega
      ml := by show ms.length ≤ 40; omega
      mw := hm }
  · exact { gl := lg, gb := bg, o1 := by omega, o3 := by omega, s1 := by omega, sb := bs'.mono (by decide), u0 := by omega, ub := bu.mono (by decide) }

theorem ok__law_falling (T : Txt K mg) (F : FunD K "_law_falling" "_law_falling" (defArgs s_law_falling) (defBody s_law_falling) (defScope s_law_falling) [] [] f fd) (k__law_top : Cal P w K mg base "_law_top" 1 ["_law_numbers", "_law_box_here"] (sp__law_top K)) (k__law_number : Cal P w K mg base "_law_number" 1 ["_law_x", "_law_far"] (sp__law_number K)) (k__law_box : Cal P w K mg base "_law_box" 2 ["_law_cell", "_law_many", "_law_unit"] (sp__law_box K)) (k__law_stream : Cal P w K mg base "_law_stream" 1 ["_law_cell", "_law_many"] (sp__law_stream K)) : FnOk P w K mg base CX0 3 f fd ["_law_spec", "_law_goal", "_law_often", "_law_step", "_law_cell"] (sp__law_falling K) := by
  refine fn_ok F sc__law_falling (fun _ => rfl) (fun cdv A' outer s H E hr => ⟨_, (pss_cons (ps_set (i := 5) sc__law_falling.nd rfl (Or.inl rfl) (pe_cal k__law_stream (hr.mono (by decide)) rfl (pa_cons (pv 4) (pa_cons pe_int pa_nil))))
      (pss_cons (ps_set (i := 6) sc__law_falling.nd rfl (Or.inl rfl) (pe_cal k__law_box (hr.mono (by decide)) rfl (pa_cons (pe_ix (ix_K (K := K) rfl) (pv 5) pe_int (fun _ _ => rfl)) (pa_cons (pe_ix (ix_K (K := K) rfl) (pv 0) pe_int (fun _ _ => rfl)) (pa_cons (pe_ix (ix_K (K := K) rfl) (pv 0) pe_int (fun _ _ => rfl)) pa_nil)))))
      (pss_cons (ps_set (i := 7) sc__law_falling.nd rfl (Or.inl rfl) (pe_op (mul_K (K := K) rfl) (pe_cal k__law_number (hr.mono (by decide)) rfl (pa_cons (pe_ix (ix_K (K := K) rfl) (pv 5) pe_int (fun _ _ => rfl)) (pa_cons pe_int pa_nil))) (pe_ix (ix_K (K := K) rfl) (pv 0) pe_int (fun _ _ => rfl))))
      (pss_cons (ps_set (i := 8) sc__law_falling.nd rfl (Or.inl rfl) (pe_ix (ix_K (K := K) rfl) (pe_lst (pa_cons pe_int (pa_cons pe_int (pa_cons (pe_op op_mod (pe_ix (ix_K (K := K) rfl) (pv 5) pe_int (fun _ _ => rfl)) (pe_op (add_K (K := K) rfl) pe_int (pe_ix (ix_K (K := K) rfl) (pv 0) pe_int (fun _ _ => rfl)))) pa_nil)))) (pe_op op_mod (pe_ix (ix_K (K := K) rfl) (pv 5) pe_int (fun _ _ => rfl)) pe_int) (fun _ _ => rfl)))
      (pss_cons (ps_set (i := 9) sc__law_falling.nd rfl (Or.inl rfl) (pe_callTy (tuple_K (K := K) rfl) rfl T.m_tuple bt_tuple (pa_cons (pe_op (add_K (K := K) rfl) (pe_lc (own := [("_law_c", 14)]) rfl sc__law_falling.nd (seq_K (K := K) rfl (pv 1)) (blkOk_by (by kernel_rfl)) (fun _ _ _ _ _ => (pg_name (i := 14) sc__law_falling.nd rfl (Or.inl rfl))) (fun _ _ _ _ _ => pts_nil) (fun _ _ _ _ _ => (pe_op (mul_K (K := K) rfl) (pv 2) (pv 14)))) (pe_lst (pa_cons (pe_op op_sub (pv 8) (pe_op (mul_K (K := K) rfl) (pv 2) (pv 7))) pa_nil))) pa_nil)))
      (pss_cons (ps_set (i := 10) sc__law_falling.nd rfl (Or.inl rfl) (pe_op (add_K (K := K) rfl) (pe_op (add_K (K := K) rfl) (pe_cal k__law_top (hr.mono (by decide)) rfl (pa_cons (pe_slice (sl_K (K := K) rfl) (pv 9) po_none (po_some (pe_un un_neg pe_int))) (pa_cons (pv 6) pa_nil))) (pe_ix (ix_K (K := K) rfl) (pv 9) (pe_un un_neg pe_int) (fun _ _ => rfl))) (pe_op op_mod (pe_op op_fdivW (pe_ix (ix_K (K := K) rfl) (pv 5) pe_int (fun _ _ => rfl)) pe_int) pe_int)))
      (pss_cons (ps_set (i := 11) sc__law_falling.nd rfl (Or.inl rfl) (pe_callB (call_max2 rfl) rfl T.m_max bt_max (pa_cons pe_int (pa_cons (pe_op (add_K (K := K) rfl) (pe_op op_fdivW (pv 10) (pv 3)) (pe_ix (ix_K (K := K) rfl) (pe_lst (pa_cons pe_int (pa_cons pe_int (pa_cons pe_int (pa_cons pe_int pa_nil))))) (pe_op op_mod (pe_ix (ix_K (K := K) rfl) (pv 5) pe_int (fun _ _ => rfl)) pe_int) (fun _ _ => rfl))) pa_nil))))
      (pss_cons (ps_set (i := 12) sc__law_falling.nd rfl (Or.inl rfl) (pe_lst (pa_cons (pe_callTy (tuple_K (K := K) rfl) rfl T.m_tuple bt_tuple (pa_cons (pe_op (add_K (K := K) rfl) (pv 1) (pe_lst (pa_cons (pv 7) pa_nil))) pa_nil)) pa_nil)))
      (pss_cons (ps_set (i := 13) sc__law_falling.nd rfl (Or.inl rfl) (pe_lst pa_nil))
      (pss_cons (ps_if (pt_cmpR (eq_K (K := K) rfl hr.units) (pe_op op_mod (pe_ix (ix_K (K := K) rfl) (pv 5) pe_int (fun _ _ => rfl)) pe_int) pe_int (nomark _)) (pss_cons (ps_expr (pe_bm PySem.F.plainAttrs_list PySem.F.slot_list_append PySem.F.type_list_append mt_append (pv 13) (pa_cons (pe_callTy (tuple_K (K := K) rfl) rfl T.m_tuple bt_tuple (pa_cons (pe_op (add_K (K := K) rfl) (pv 1) (pe_lst (pa_cons (pe_op (add_K (K := K) rfl) (pe_cal k__law_top (hr.mono (by decide)) rfl (pa_cons (pv 1) (pa_cons (pv 6) pa_nil))) (pe_op op_mod (pe_op op_fdivW (pe_ix (ix_K (K := K) rfl) (pv 5) pe_int (fun _ _ => rfl)) pe_int) pe_int)) pa_nil))) pa_nil)) pa_nil)))
      (pss_one (ps_if (PW.pt (pw_and (pt_cmpR (eq_K (K := K) rfl hr.units) (pe_op op_mod (pe_op op_fdivW (pe_ix (ix_K (K := K) rfl) (pv 5) pe_int (fun _ _ => rfl)) pe_int) pe_int) pe_int (nomark _)) (pw_and1 (pt_cmpR op_le (pv 7) (pe_ix (ix_K (K := K) rfl) (pe_ix (ix_K (K := K) rfl) (pv 13) pe_int (fun _ _ => rfl)) (pe_un un_neg pe_int) (fun _ _ => rfl)) (nomark _))))) (pss_one (ps_expr (pe_bm PySem.F.plainAttrs_list PySem.F.slot_list_append PySem.F.type_list_append mt_append (pv 12) (pa_cons (pe_callTy (tuple_K (K := K) rfl) rfl T.m_tuple bt_tuple (pa_cons (pe_op (add_K (K := K) rfl) (pv 1) (pe_lst (pa_cons (pe_op (add_K (K := K) rfl) (pe_op (add_K (K := K) rfl) (pe_ix (ix_K (K := K) rfl) (pe_ix (ix_K (K := K) rfl) (pv 13) pe_int (fun _ _ => rfl)) (pe_un un_neg pe_int) (fun _ _ => rfl)) pe_int) (pe_op op_mod (pe_op op_fdivW (pe_ix (ix_K (K := K) rfl) (pv 5) pe_int (fun _ _ => rfl)) pe_int) pe_int)) pa_nil))) pa_nil)) pa_nil)))) pss_nil))) pss_nil)
      (pss_one (ps_ret (pe_tup (pa_cons (pv 6) (pa_cons (pv 13) (pa_cons (pv 12) (pa_cons (pv 9) (pa_cons (pv 10) (pa_cons (pv 11) pa_nil))))))))))))))))))), ?_⟩)
  rintro ⟨t, u, g, o, s, c⟩ ⟨h, hg⟩
  have hg : WfGoal t.n g o s u := hg
  have hn : t.n ≤ 3 := h.n3
  have gl := hg.gl
  have o1 := hg.o1
  have o3 := hg.o3
  have s1 := hg.s1
  have bo : Bd 7 o := small_b (by omega) (by decide)
  have bg : ∀ c ∈ g, Bd 7 c := fun c hc => small_b (by have := hg.gb c hc; omega) (by decide)
  refine rq_set (ev_callD (c, 6) (ea_consD (ev_var rfl) (ea_consD ev_int ea_nil)) (by show 6 ≤ 100; decide)) ?_
  rintro d ⟨xs, rfl, lx, bx⟩
  have lx : xs.length = 6 := lx
  obtain ⟨x0, h0, _⟩ := get_ex (r := xs) (k := 0) (by omega)
  obtain ⟨x1, h1, _⟩ := get_ex (r := xs) (k := 1) (by omega)
  obtain ⟨x2, h2, _⟩ := get_ex (r := xs) (k := 2) (by omega)
  obtain ⟨x3, h3, _⟩ := get_ex (r := xs) (k := 3) (by omega)
  obtain ⟨x4, h4, _⟩ := get_ex (r := xs) (k := 4) (by omega)
  obtain ⟨x5, h5, _⟩ := get_ex (r := xs) (k := 5) (by omega)
  refine rq_set (ev_callD (x0, t.n, u) (ea_consD (ev_ixL (at_ints h0) (ev_var rfl) ev_int) (ea_consD (ev_ixT rfl (ev_var rfl) ev_int) (ea_consD (ev_ixT rfl (ev_var rfl) ev_int) ea_nil))) ⟨hn, hg.u0, hg.ub⟩) ?_
  rintro d ⟨bs, rfl, lb, wb⟩
  have lb : bs.length = t.n := lb
  refine rq_set (R := IntP (Bd 127)) (evp_mul (a := 7) (b := 120) (by decide) (by decide) (by decide) ((ev_callD (x1, 4) (ea_consD (ev_ixL (at_ints h1) (ev_var rfl) ev_int) (ea_consD ev_int ea_nil)) (by show 4 ≤ 100; decide)).mono fun d ⟨i, e, hi⟩ => ⟨i, e, small_b (by have : i.natAbs ≤ 4 := hi; omega) (by decide)⟩) (evp_is (ev_ixT rfl (ev_var rfl) ev_int) hg.ub)) ?_
  rintro d ⟨b, rfl, bb⟩
  change Kt.Run K _ [some (.p (spD t u)), some (.p (dl g)), some (.p (.int o)), some (.p (.int s)), some (.p (.int c)), some (.p (dl xs)), some (.p (prs bs)), some (.p (.int b)), none, none, none, none, none, none, none] _
  obtain ⟨sl, hsl, bsl⟩ : ∃ sl : Int, L2.atI [D.int 0, D.int 0, D.int (x2 % (1 + u))] (x3 % 3) = some (.int sl) ∧ Bd 121 sl := by
    have q3 := mod_lt (x := x3) (m := 3) (by decide)
    have h3 : x3 % 3 = 0 ∨ x3 % 3 = 1 ∨ x3 % 3 = 2 := by omega
    have u0 := hg.u0
    rcases h3 with h | h | h <;> rw [h]
    · exact ⟨0, rfl, Bd.zero⟩
    · exact ⟨0, rfl, Bd.zero⟩
    · exact ⟨_, rfl, (mod_b (m := 1 + u) (Bd.add (a := 120) (small_b (by decide) (by decide)) hg.ub) (by omega)).2⟩
  have u0 := hg.u0
  refine rq_setD (ev_ixL hsl (ev_lstD (ea_consD ev_int (ea_consD ev_int (ea_consD (ev_mod (by omega) (ev_ixL (at_ints h2) (ev_var rfl) ev_int) (ev_add ev_int (ev_ixT rfl (ev_var rfl) ev_int))) ea_nil))) (by show 3 ≤ 100000; decide)).toD (ev_mod (by decide) (ev_ixL (at_ints h3) (ev_var rfl) ev_int) ev_int)) ?_
  have lsm : (smul o g).length = t.n := by rw [smul_len, gl]
  have bsm : ∀ x ∈ smul o g, Bd 14 x := smul_b bo bg
  refine rq_setD (d := dt (smul o g ++ [sl - o * b])) (ev_rowD (by rw [lsm]; omega) (ev_is (ev_lcD (fun d => match d with | .int i => .int (o * i) | d => d) (ei_lst (ev_var rfl)) (by rw [List.length_map]; show g.length ≤ 50000; omega) (fun _ h => h) fun d hd => ?_).toD ?_) (ev_sub (ev_var rfl) (ev_mul bo bb (by decide) (by decide) (by decide) (ev_var rfl) (ev_var rfl)))) ?_
  · obtain ⟨i, hi, rfl⟩ := List.mem_map.mp hd
    exact ⟨_, tg_name, ev_mul bo (bg i hi) (by decide) (by decide) (by decide) (ev_var rfl) (ev_var rfl)⟩
  · show D.lst _ = D.lst _
    rw [List.map_map, smul, List.map_map] <;> rfl
  have by' : Bd 135 (sl - o * b) := Bd.sub (a := 134) (bsl.mono (by decide)) (bo.mul bb)
  obtain ⟨y, hy⟩ : ∃ y, y = sl - o * b := ⟨_, rfl⟩
  rw [← hy] at by' ⊢
  change Kt.Run K _ [some (.p (spD t u)), some (.p (dl g)), some (.p (.int o)), some (.p (.int s)), some (.p (.int c)), some (.p (dl xs)), some (.p (prs bs)), some (.p (.int b)), some (.p (.int sl)), some (.p (dt (smul o g ++ [y]))), none, none, none, none, none] _
  have mn : smul o g ++ [y] ≠ [] := fun e => by
    have := congrArg List.length e
    rw [List.length_append, List.length_singleton] at this
    cases this
  have ml : (smul o g ++ [y]).getLastD 0 = y := by rw [List.getLastD_concat]
  refine rq_set (R := IntP (Bd 422)) (evp_add (evp_add (a := 420) (ev_callD (true, smul o g, bs) (ea_consD (ev_is (ev_lastT (r := smul o g ++ [y]) (ev_var rfl) (ev_neg ev_int)) (by rw [List.dropLast_concat] <;> rfl)) (ea_consD (ev_var rfl) ea_nil)) ⟨by show (smul o g).length ≤ 10; omega, fun x hx => (bsm x hx).mono (by decide), wb⟩) (evp_is (ev_ixT (at_lastI mn) (ev_var rfl) (ev_neg ev_int)) (by rw [ml]; exact by'.mono (by decide)))) (evp_is (ev_mod (by decide) (ev_div (by decide) (lg_small (by decide)) (ev_ixL (at_ints h3) (ev_var rfl) ev_int) ev_int) ev_int) (small_b (by have := mod_lt (x := x3 / 3) (m := 2) (by decide); omega) (by decide)))) ?_
  rintro d ⟨tp, rfl, btp⟩
  obtain ⟨c4, hc4, bc4⟩ : ∃ c4 : Int, L2.atI [D.int 1, D.int 1, D.int 0, D.int 5] (x4 % 4) = some (.int c4) ∧ Bd 7 c4 := by
    have q3 := mod_lt (x := x4) (m := 4) (by decide)
    have h3 : x4 % 4 = 0 ∨ x4 % 4 = 1 ∨ x4 % 4 = 2 ∨ x4 % 4 = 3 := by omega
    rcases h3 with h | h | h | h <;> rw [h]
    · exact ⟨1, rfl, small_b (by decide) (by decide)⟩
    · exact ⟨1, rfl, small_b (by decide) (by decide)⟩
    · exact ⟨0, rfl, small_b (by decide) (by decide)⟩
    · exact ⟨5, rfl, small_b (by decide) (by decide)⟩
  refine rq_setD (ev_max ev_int (ev_add (ev_div (by omega) (Nat.lt_of_lt_of_le (hg.sb.log (by decide)) (by decide)) (ev_var rfl) (ev_var rfl)) (ev_ixL hc4 (ev_lstD (ea_consD ev_int (ea_consD ev_int (ea_consD ev_int (ea_consD ev_int ea_nil)))) (by show 4 ≤ 100000; decide)).toD (ev_mod (by decide) (ev_ixL (at_ints h4) (ev_var rfl) ev_int) ev_int)))) ?_
  have btn : Bd 423 (max 0 (tp / s + c4)) := max_b Bd.zero (Bd.add (div_b btp) (bc4.mono (by decide)))
  have tn0 : 0 ≤ max 0 (tp / s + c4) := Int.le_max_left ..
  obtain ⟨tn, htn⟩ : ∃ tn, tn = max 0 (tp / s + c4) := ⟨_, rfl⟩
  rw [← htn] at btn tn0 ⊢
  change Kt.Run K _ [some (.p (spD t u)), some (.p (dl g)), some (.p (.int o)), some (.p (.int s)), some (.p (.int c)), some (.p (dl xs)), some (.p (prs bs)), some (.p (.int b)), some (.p (.int sl)), some (.p (dt (smul o g ++ [y]))), some (.p (.int tp)), some (.p (.int tn)), none, none, none] _
  have rb : ∀ z : Int, Bd 500 z → ∀ x ∈ g ++ [z], Bd 500 x := fun z hz x hx => by
    rcases List.mem_append.mp hx with hx | hx
    · exact (bg x hx).mono (by decide)
    · rw [List.mem_singleton.mp hx]; exact hz
  have rl : ∀ z : Int, (g ++ [z]).length = t.n + 1 := fun z => by rw [List.length_append, gl] <;> rfl
  refine rq_ownD (xs := [dt (g ++ [b])]) (ev_lstD (ea_consD (ev_rowD (by omega) (ev_var rfl) (ev_var rfl)) ea_nil) (by show 1 ≤ 100000; decide)) fun a1 => ?_
  refine rq_ownD ev_nil fun a2 => ?_
  have S : ∀ aims rm : List (List Int), aims.length ≤ 2 → rm.length ≤ 1 → (∀ r ∈ aims, r.length = t.n + 1) → (∀ r ∈ aims, ∀ x ∈ r, Bd 500 x) → (∀ r ∈ rm, r.length = t.n + 1) → (∀ r ∈ rm, ∀ x ∈ r, Bd 500 x) → WfTold t.n ⟨bs, rm, aims, smul o g ++ [y], tp, tn⟩ := fun aims rm l1 l2 w1 b1 w2 b2 => {
    bl := lb
    bw := wb
    rl := l2
    rw := w2
    rb := b2
    al := l1
    aw := w1
    ab := b1
    ml := by show (smul o g ++ [y]).length = t.n + 1; rw [List.length_append, lsm] <;> rfl
    mb := fun x hx => by
      rcases List.mem_append.mp hx with hx | hx
      · exact (bsm x hx).mono (by decide)
      · rw [List.mem_singleton.mp hx]; exact by'.mono (by decide)
    tb := btp.mono (by decide)
    u0 := tn0
    ub := btn.mono (by decide) }
  have one : ∀ {z : Int}, Bd 500 z → (∀ r ∈ [g ++ [z]], r.length = t.n + 1) ∧ ∀ r ∈ [g ++ [z]], ∀ x ∈ r, Bd 500 x := fun {z} hz => ⟨fun r hr => by rw [List.mem_singleton.mp hr]; exact rl z, fun r hr => by rw [List.mem_singleton.mp hr]; exact rb z hz⟩
  have two : ∀ {z z' : Int}, Bd 500 z → Bd 500 z' → (∀ r ∈ [g ++ [z], g ++ [z']], r.length = t.n + 1) ∧ ∀ r ∈ [g ++ [z], g ++ [z']], ∀ x ∈ r, Bd 500 x := fun {z z'} hz hz' => ⟨fun r hr => by
    rcases List.mem_cons.mp hr with rfl | hr
    · exact rl z
    · rw [List.mem_singleton.mp hr]; exact rl z', fun r hr => by
    rcases List.mem_cons.mp hr with rfl | hr
    · exact rb z hz
    · rw [List.mem_singleton.mp hr]; exact rb z' hz'⟩
  refine r_seq (fun ρ => ∃ aims rm : List (List Int), ρ = [some (.p (spD t u)), some (.p (dl g)), some (.p (.int o)), some (.p (.int s)), some (.p (.int c)), some (.p (dl xs)), some (.p (prs bs)), some (.p (.int b)), some (.p (.int sl)), some (.p (dt (smul o g ++ [y]))), some (.p (.int tp)), some (.p (.int tn)), some (.o a1 (aims.map dt)), some (.o a2 (rm.map dt)), none] ∧ WfTold t.n ⟨bs, rm, aims, smul o g ++ [y], tp, tn⟩) ?_ ?_
  · refine r_if (etD (ev_eqI (ev_mod (by decide) (ev_ixL (at_ints h5) (ev_var rfl) ev_int) ev_int) ev_int)) (fun _ => ?_) (fun _ => r_next ⟨[g ++ [b]], [], rfl, S _ _ (by show 1 ≤ 2; decide) (Nat.zero_le _) (one (bb.mono (by decide))).1 (one (bb.mono (by decide))).2 (fun r hr => nomatch hr) (fun r hr => nomatch hr)⟩)
    refine rq_app (i := 13) (R := fun d => ∃ z : Int, d = dt (g ++ [z]) ∧ Bd 421 z) rfl (by decide) (ev_rowN (by omega) (ev_var rfl) (evp_add (a := 420) (ev_callD (false, g, bs) (ea_consD (ev_var rfl) (ea_consD (ev_var rfl) ea_nil)) ⟨by show g.length ≤ 10; omega, fun x hx => (bg x hx).mono (by decide), wb⟩) (evp_is (ev_mod (by decide) (ev_div (by decide) (lg_small (by decide)) (ev_ixL (at_ints h5) (ev_var rfl) ev_int) ev_int) ev_int) (small_b (by have := mod_lt (x := x5 / 2) (m := 3) (by decide); omega) (by decide))))) ?_
    rintro d ⟨z, rfl, bz⟩
    have zn : g ++ [z] ≠ [] := ne_nil_len (rl z)
    have zl : (g ++ [z]).getLastD 0 = z := by rw [List.getLastD_concat]
    refine r_if (et_andD (etD (ev_eqI (ev_mod (by decide) (ev_div (by decide) (lg_small (by decide)) (ev_ixL (at_ints h5) (ev_var rfl) ev_int) ev_int) ev_int) ev_int)) fun _ => etD (ev_le (ev_var rfl) (ev_ixT (at_lastI zn) (ev_ixO (i := 0) rfl rfl ev_int) (ev_neg ev_int)))) (fun _ => ?_) (fun _ => r_next ⟨[g ++ [b]], [g ++ [z]], rfl, S _ _ (by show 1 ≤ 2; decide) (Nat.le_refl _) (one (bb.mono (by decide))).1 (one (bb.mono (by decide))).2 (one (bz.mono (by decide))).1 (one (bz.mono (by decide))).2⟩)
    refine r_app (i := 12) (R := fun d => ∃ z' : Int, d = dt (g ++ [z']) ∧ Bd 423 z') rfl (by show 1 ≤ 50000; decide) (ev_rowN (by omega) (ev_var rfl) (evp_add (evp_add (a := 421) (evp_is (ev_ixT (at_lastI zn) (ev_ixO (i := 0) rfl rfl ev_int) (ev_neg ev_int)) (by rw [zl]; exact bz)) (evp_is ev_int (small_b (by decide) (by decide)))) (evp_is (ev_mod (by decide) (ev_div (by decide) (lg_small (by decide)) (ev_ixL (at_ints h5) (ev_var rfl) ev_int) ev_int) ev_int) (small_b (by have := mod_lt (x := x5 / 16) (m := 3) (by decide); omega) (by decide))))) ?_
    rintro d ⟨z', rfl, bz'⟩
    exact ⟨[g ++ [b], g ++ [z']], [g ++ [z]], rfl, S _ _ (Nat.le_refl _) (Nat.le_refl _) (two (bb.mono (by decide)) (bz'.mono (by decide))).1 (two (bb.mono (by decide)) (bz'.mono (by decide))).2 (one (bz.mono (by decide))).1 (one (bz.mono (by decide))).2⟩
  rintro ρ1 ⟨aims, rm, rfl, wt⟩
  refine r_freeze (i := 12) rfl (r_freeze (i := 13) rfl (r_retD (ev_tup (ea_consD (ev_var rfl) (ea_consD (ev_var rfl) (ea_consD (ev_var rfl) (ea_consD (ev_var rfl) (ea_consD (ev_var rfl) (ea_consD (ev_var rfl) ea_nil)))))) (by show 6 ≤ 100000; decide)) ⟨_, rfl, wt⟩))

end
end Tx
end
section
set_option Elab.async false
set_option linter.all false
set_option maxRecDepth 100000
set_option maxHeartbeats 4000000
set_option autoImplicit false
set_option exponentiation.threshold 100000
/-! Wg: shares, runs: promises. -/
namespace Tx
open PySem L2 Kr Kt Li Ra
/-! shares as trees -/
def IsSh (B : Nat) (d : D) : Prop := ∃ (o : Int) (ns : List Int), d = .tup [.int o, dl ns] ∧ ns.length ≤ 900 ∧ Bd B o ∧ ∀ x ∈ ns, Bd B x
def Tr (B : Nat) : Nat → D → Prop
  | 0, _ => False
  | n + 1, d => ∃ xs, d = .lst xs ∧ xs.length ≤ 900 ∧ ∀ x ∈ xs, IsSh B x ∨ Tr B n x
theorem Ok.up {B : Nat} : ∀ {n : Nat} {d : D}, Ok B n d → Ok B (n + 1) d
  | 0, .non, _ => trivial
  | 0, .bl _, _ => trivial
  | 0, .int _, h => h
  | 0, .lst _, h => h.elim
  | 0, .tup _, h => h.elim
  | 0, .ins _ _ _, h => h.elim
  | 0, .scr _, h => h.elim
  | n + 1, .non, _ => trivial
  | n + 1, .bl _, _ => trivial
  | n + 1, .int _, h => h
  | n + 1, .lst xs, h => ⟨h.1, fun x hx => Ok.up (h.2 x hx)⟩
  | n + 1, .tup xs, h => ⟨h.1, fun x hx => Ok.up (h.2 x hx)⟩
  | n + 1, .ins _ _ _, h => h.elim
  | n + 1, .scr _, h => h.elim
theorem Ok.le {B n m : Nat} {d : D} (h : Ok B n d) (l : n ≤ m) : Ok B m d := by
  induction l with
  | refl => exact h
  | step _ ih => exact ih.up
theorem Ok.wide {B C : Nat} (l : B ≤ C) : ∀ {n : Nat} {d : D}, Ok B n d → Ok C n d
  | 0, .non, _ => trivial
  | 0, .bl _, _ => trivial
  | 0, .int i, h => Bd.mono (i := i) h l
  | 0, .lst _, h => h.elim
  | 0, .tup _, h => h.elim
  | 0, .ins _ _ _, h => h.elim
  | 0, .scr _, h => h.elim
  | n + 1, .non, _ => trivial
  | n + 1, .bl _, _ => trivial
  | n + 1, .int i, h => Bd.mono (i := i) h l
  | n + 1, .lst xs, h => ⟨h.1, fun x hx => Ok.wide l (h.2 x hx)⟩
  | n + 1, .tup xs, h => ⟨h.1, fun x hx => Ok.wide l (h.2 x hx)⟩
  | n + 1, .ins _ _ _, h => h.elim
  | n + 1, .scr _, h => h.elim
theorem ok_intD {B n : Nat} {i : Int} (h : Bd B i) : Ok B n (.int i) := ok_int h
theorem ok_pair {B n : Nat} {x y : D} (h1 : Ok B n x) (h2 : Ok B n y) : Ok B (n + 1) (.tup [x, y]) := ⟨by show 2 ≤ 1000; decide, fun z hz => by
  rcases List.mem_cons.mp hz with rfl | hz
  · exact h1
  · rw [List.mem_singleton.mp hz]; exact h2⟩
theorem IsSh.ok {B : Nat} {d : D} (h : IsSh B d) : Ok B 2 d := by
  obtain ⟨o, ns, rfl, l, ho, hn⟩ := h
  exact ok_pair (n := 1) (ok_intD ho) (ok_ints (n := 0) (by omega) hn)
theorem Tr.ok {B : Nat} : ∀ {n : Nat} {d : D}, Tr B n d → Ok B (n + 2) d
  | 0, _, h => h.elim
  | n + 1, _, h => by
    obtain ⟨xs, rfl, l, hx⟩ := h
    refine ⟨by omega, fun x hx' => ?_⟩
    rcases hx x hx' with h | h
    · exact h.ok.le (by omega)
    · exact Tr.ok h
/-- the parts of a paper -/
abbrev partsD (F : Fl) : D := .lst [room F.room, F.starts, F.steps, dt F.measure, .int F.step, .int F.top, F.falls, F.floors, F.tops]
structure TrF (F : Fl) : Prop where
  t1 : Tr 2000 1 F.starts
  t2 : Tr 2000 2 F.steps
  t3 : Tr 2000 2 F.falls
  t4 : Tr 2000 1 F.floors
  t5 : IsSh 2000 F.tops
/-- G is F, its shares, step or top changed -/
structure Sp8 (F G : Fl) : Prop where
  room : G.room = F.room
  measure : G.measure = F.measure
  step : G.step = F.step ∨ G.step = F.step + 1
  top : G.top = F.top ∨ G.top = F.top - 1
  o1 : ∃ q, Ok 2001 q G.starts ∧ q ≤ 20
  o2 : ∃ q, Ok 2001 q G.steps ∧ q ≤ 20
  o3 : ∃ q, Ok 2001 q G.falls ∧ q ≤ 20
  o4 : ∃ q, Ok 2001 q G.floors ∧ q ≤ 20
  o5 : ∃ q, Ok 2001 q G.tops ∧ q ≤ 20
/-! runs -/
def PtOk (k : Nat) (p : List Rat) : Prop := ∃ e, 0 < e ∧ e < 2 ^ (7 * k + 1) ∧ ∀ q ∈ p, Sq (12 * e) (2200 + 1100 * k) q
def StepOk (t : Th) (p q : List Rat) : Prop := ∃ m ∈ t.ms, ∃ ws, (∀ r ∈ m.rows, holdQ r p) ∧ InBox t.ps ws ∧ q = stepQ t.n m p ws
structure RunOk (t : Th) (qs : List Rat) (pts : List (List Rat)) : Prop where
  h0 : pts[0]? = some qs
  pt : ∀ (k : Nat) (p : List Rat), pts[k]? = some p → p.length = t.n ∧ PtOk k p
  st : ∀ (k : Nat) (p q : List Rat), pts[k]? = some p → pts[k + 1]? = some q → StepOk t p q
section
variable (K : PySem.W.Frag)
abbrev sp__law_other : Sp := spF K (fun a : Int × List Int × Int × Nat => [.tup [.int a.1, dl a.2.1], .int a.2.2.1]) (fun a => a.2.1.length ≤ 900 ∧ 7 ≤ a.2.2.2 ∧ Bd a.2.2.2 a.1 ∧ ∀ x ∈ a.2.1, Bd a.2.2.2 x) (fun a r => Ok (a.2.2.2 + 1) 2 r)
abbrev sp__law_changed (n : Nat) : Sp := spF K (fun a : D × Int × Nat => [a.1, .int a.2.1]) (fun a => a.2.2 + 1 ≤ n ∧ Tr 2000 a.2.2 a.1) (fun a r => Ok 2001 (a.2.2 + 2) r)
abbrev sp__law_spoilt : Sp := spF K (fun a : Fl × Int => [partsD a.1, .int a.2]) (fun a => TrF a.1) (fun a r => ∃ G, r = partsD G ∧ Sp8 a.1 G)
abbrev sp__law_fall_parts : Sp := spF K (fun a : Th × Int × List Int × Int × Int × Told => [spD a.1 a.2.1, dl a.2.2.1, .int a.2.2.2.1, .int a.2.2.2.2.1, toldD a.2.2.2.2.2])
  (fun a => WfTh a.1 ∧ WfGoal a.1.n a.2.2.1 a.2.2.2.1 a.2.2.2.2.1 a.2.1 ∧ WfTold a.1.n a.2.2.2.2.2) (fun a r => ∃ F : Fl, r = partsD F ∧ F.room = a.2.2.2.2.2.room ∧ F.measure = a.2.2.2.2.2.measure ∧ F.step = a.2.2.2.2.1 ∧ F.top = a.2.2.2.2.2.top ∧ TrF F)
abbrev sp__law_behind : Sp := spF K (fun a : Nat × Nat × Md × List Rat × List Rat => [mdT a.1 a.2.2.1, dqs a.2.2.2.1, dq 0, dqs a.2.2.2.2])
  (fun a => a.1 ≤ 3 ∧ a.2.1 ≤ 6 ∧ WfMd a.1 a.2.1 a.2.2.1 ∧ a.2.2.2.1.length = a.1 ∧ ∃ D, 0 < D ∧ D < 2 ^ 900 ∧ (∀ q ∈ a.2.2.2.1, Sq D 39000 q) ∧ ∀ q ∈ a.2.2.2.2, Sq D 39000 q) (fun a r => r = dqs (stepQ a.1 a.2.2.1 a.2.2.2.1 a.2.2.2.2))
abbrev sp__law_run : Sp := spF K (fun a : Th × Int × List Rat × List Int => [spD a.1 a.2.1, dqs a.2.2.1, dl a.2.2.2])
  (fun a => WfTh a.1 ∧ a.2.2.1.length = a.1.n ∧ (∀ q ∈ a.2.2.1, Sq 12 1100 q) ∧ a.2.2.2.length ≤ 30) (fun a r => ∃ pts, r = .lst (pts.map dqs) ∧ pts.length ≤ 31 ∧ RunOk a.1 a.2.2.1 pts)
abbrev sp_law : Sp := spF K (fun ns : List Int => [.scr ns]) (fun _ => True) (fun _ r => r = .bl true)
end
section
variable {K : PySem.W.Frag} {ρ : Rho} {ta tb te tk tk1 : TE} {R : D → Prop}
/-- xs[:k] + [x] + xs[k + 1:] -/
theorem ev_splice {xs : List D} {k : Nat} (hz : xs.length ≤ 1000) (h1 : EvD K ta ρ (.lst xs)) (h2 : EvD K tk ρ (.int k)) (h3 : EvD K tk1 ρ (.int (k + 1 : Nat))) (hx : EvR K te ρ R) :
    EvR K (tOp (rAddX K) (tOp (rAddX K) (tSl (rSlX K) ta tNoPart (tPart tk)) (tLst (tCons te tNil))) (tSl (rSlX K) ta (tPart tk1) tNoPart)) ρ (fun d => ∃ x, d = .lst (xs.take k ++ [x] ++ xs.drop (k + 1)) ∧ R x) := by
  have a1 := (ev_slL h1 eo_none (eo_some h2)).toD
  have a2 := (ev_slL h1 (eo_some h3) eo_none).toD
  rw [cut_take] at a1
  rw [cut_drop] at a2
  have hl : EvN K (tLst (tCons te tNil)) ρ (fun ds => ∃ x, ds = [x] ∧ R x) := ev_lst ((ea_cons hx ea_nil).mono fun ds ⟨d, r, e, h, e3⟩ => ⟨d, by rw [e, e3], h⟩) fun ds ⟨y, e, _⟩ => by rw [e]; show 1 ≤ 100000; decide
  have b1 := ev_catN (Ra := fun ds => ds = xs.take k) (Rb := fun ds => ∃ x, ds = [x] ∧ R x) (fun a b e ⟨x, e2, _⟩ => by rw [e, e2, List.length_take, List.length_singleton]; omega) (a1.mono fun d e => ⟨_, e, rfl⟩) hl.toR
  have b2 := ev_catN (Ra := fun ds => ∃ x, ds = xs.take k ++ [x] ∧ R x) (Rb := fun ds => ds = xs.drop (k + 1)) (fun a b ⟨x, e, _⟩ e2 => by rw [e, e2, List.length_append, List.length_take, List.length_singleton, List.length_drop]; omega) (b1.toR.mono fun d ⟨ds, e, a, b, e1, e2, x, e3, h⟩ => ⟨_, e, x, by rw [e1, e2, e3], h⟩) (a2.mono fun d e => ⟨_, e, rfl⟩)
  exact b2.toR.mono fun d ⟨ds, e, a, b, e1, ⟨x, e2, h⟩, e3⟩ => ⟨x, by rw [e, e1, e2, e3], h⟩
/-- xs[:k] + xs[k + 1:] -/
theorem ev_cutout {xs : List D} {k : Nat} (hz : xs.length ≤ 1000) (h1 : EvD K ta ρ (.lst xs)) (h2 : EvD K tk ρ (.int k)) (h3 : EvD K tk1 ρ (.int (k + 1 : Nat))) :
    EvD K (tOp (rAddX K) (tSl (rSlX K) ta tNoPart (tPart tk)) (tSl (rSlX K) ta (tPart tk1) tNoPart)) ρ (.lst (xs.take k ++ xs.drop (k + 1))) := by
  have a1 := (ev_slL h1 eo_none (eo_some h2)).toD
  have a2 := (ev_slL h1 (eo_some h3) eo_none).toD
  rw [cut_take] at a1
  rw [cut_drop] at a2
  exact (ev_cat (by rw [List.length_take, List.length_drop]; omega) a1 a2).toD
/-- lists of ints, few and small -/
def IL (L B : Nat) (es : List D) : Prop := ∃ ns : List Int, es = ns.map D.int ∧ ns.length ≤ L ∧ ∀ x ∈ ns, Bd B x
def ILd (L B : Nat) (d : D) : Prop := ∃ es, d = .lst es ∧ IL L B es
theorem il_cat {L M B : Nat} (hz : L + M ≤ 100000) (ha : EvR K ta ρ (ILd L B)) (hb : EvR K tb ρ (ILd M B)) : EvR K (tOp (rAddX K) ta tb) ρ (ILd (L + M) B) :=
  (ev_catN (Ra := IL L B) (Rb := IL M B) (fun xs ys ⟨ns, e, l, _⟩ ⟨ms, e2, l2, _⟩ => by rw [e, e2, List.length_map, List.length_map]; omega) ha hb).toR.mono fun d ⟨ds, e, xs, ys, e1, ⟨ns, e2, l2, b2⟩, ms, e3, l3, b3⟩ => ⟨ds, e, ns ++ ms, by rw [e1, e2, e3, List.map_append], by rw [List.length_append]; omega, fun x hx => (List.mem_append.mp hx).elim (b2 x) (b3 x)⟩
theorem il_one {B : Nat} {i : Int} (hi : Bd B i) (h : EvD K ta ρ (.int i)) : EvR K (tLst (tCons ta tNil)) ρ (ILd 1 B) :=
  (ev_lstD (ea_consD h ea_nil) (by show 1 ≤ 100000; decide)).toR.mono fun d ⟨ds, e, e2⟩ => ⟨ds, e, [i], e2, Nat.le_refl _, fun x hx => by rw [List.mem_singleton.mp hx]; exact hi⟩
theorem il_zeros {k B : Nat} (hk : k ≤ 1000) (h : EvD K tb ρ (.int k)) : EvR K (tOp (rMulX K) (tLst (tCons (tC (.int 0)) tNil)) tb) ρ (ILd k B) :=
  (ev_zeros hk h).toR.mono fun d ⟨ds, e, e2⟩ => ⟨ds, e, Li.zeros k, e2, by rw [List.length_replicate]; exact Nat.le_refl _, fun x hx => by rw [(List.mem_replicate.mp hx).2]; exact Bd.zero⟩
theorem il_var {L B : Nat} {ns : List Int} (hl : ns.length ≤ L) (hb : ∀ x ∈ ns, Bd B x) (h : EvD K ta ρ (dl ns)) : EvR K ta ρ (ILd L B) := h.mono fun d e => ⟨_, e, ns, rfl, hl, hb⟩
theorem ILd.mono {L M B C : Nat} {d : D} (h : ILd L B d) (l : L ≤ M) (l2 : B ≤ C) : ILd M C d := by
  obtain ⟨es, e, ns, e2, h1, h2⟩ := h
  exact ⟨es, e, ns, e2, by omega, fun x hx => (h2 x hx).mono l2⟩
theorem ev_sh {L B : Nat} {o : Int} (hL : L ≤ 900) (ho : Bd B o) (h1 : EvD K ta ρ (.int o)) (h2 : EvR K tb ρ (ILd L B)) : EvR K (tTup (tCons ta (tCons tb tNil))) ρ (IsSh B) :=
  (ev_tupR (Rs := fun ds => ∃ y, ds = [.int o, y] ∧ ILd L B y) ((ea_cons h1 (ea_cons h2 ea_nil)).mono fun ds ⟨d, r, e, e1, d2, r2, e2, h, e3⟩ => ⟨d2, by rw [e, e1, e2, e3], h⟩) fun ds ⟨y, e, _⟩ => by rw [e]; show 2 ≤ 100000; decide).mono fun d ⟨ds, e, y, e1, es, e2, ns, e3, h1, h2⟩ => ⟨o, ns, by rw [e, e1, e2, e3], by omega, ho, h2⟩
theorem all2_mem {F : D → D → Prop} {ds es : List D} (h : All2 F ds es) : ∀ e ∈ es, ∃ d, F d e := by
  induction h with
  | nil => exact fun e h => nomatch h
  | cons h1 _ ih =>
    intro e he
    rcases List.mem_cons.mp he with rfl | he
    · exact ⟨_, h1⟩
    · exact ih e he
/-- a list made, of each item one thing known -/
theorem ev_lcP {wi : TI} {g : TG} {vs js : List Nat} {ds : List D} {Q : D → Prop} (hi : EvI K wi ρ (fun x => x = ds)) (hz : ds.length ≤ 50000) (hj : ∀ j ∈ js, j ∈ vs)
    (hb : ∀ d, d ∈ ds → ∃ ρ1, Tgt K g js d (wipeR ρ vs) ρ1 ∧ EvR K te ρ1 Q) : EvN K (tLc wi g tYes te vs) ρ (fun es => es.length = ds.length ∧ ∀ e ∈ es, Q e) :=
  (ev_lc (F := fun d e => Q e) hi (fun x e => by rw [e]; exact hz) hj fun x d e hd => hb d (by rw [← e]; exact hd)).mono fun es ⟨x, e, a⟩ => by
    subst e
    exact ⟨a.len, fun e he => by
      obtain ⟨d, hd⟩ := all2_mem a e he
      exact hd⟩
end
theorem made_mem {T : D → Bool → Prop} {F : D → D → Prop} {ds es : List D} (h : Made T F ds es) : ∀ e ∈ es, ∃ d ∈ ds, T d true ∧ F d e := by
  induction h with
  | nil => exact fun e h => nomatch h
  | yes h1 h2 _ ih =>
    intro e he
    rcases List.mem_cons.mp he with rfl | he
    · exact ⟨_, List.mem_cons_self, h1, h2⟩
    · obtain ⟨d, hd, k⟩ := ih e he
      exact ⟨d, List.mem_cons_of_mem _ hd, k⟩
  | no _ _ ih =>
    intro e he
    obtain ⟨d, hd, k⟩ := ih e he
    exact ⟨d, List.mem_cons_of_mem _ hd, k⟩
theorem dq_inj {a b : Rat} (h : dq a = dq b) : a = b := by
  have h : [D.int a.num, D.int (a.den : Int)] = [D.int b.num, D.int (b.den : Int)] := by injection h
  injection h with h1 h2
  injection h2 with h2 _
  injection h1 with h1
  injection h2 with h2
  exact Rat.ext h1 (by exact_mod_cast h2)
theorem dqm_inj : ∀ {p q : List Rat}, p.map dq = q.map dq → p = q
  | [], [], _ => rfl
  | [], _ :: _, h => nomatch h
  | _ :: _, [], h => nomatch h
  | a :: p, b :: q, h => by
    rw [List.map_cons, List.map_cons] at h
    injection h with h1 h2
    rw [dq_inj h1, dqm_inj h2]
theorem dqs_inj {p q : List Rat} (h : dqs p = dqs q) : p = q := dqm_inj (by injection h)
end Tx
end
section
set_option Elab.async false
set_option linter.all false
set_option maxRecDepth 100000
set_option maxHeartbeats 4000000
set_option autoImplicit false
set_option exponentiation.threshold 100000
/-! W10: shares changed; points behind; runs. -/
namespace Tx
open PySem L2 Kr Kt Li Ra
theorem one_fq : dq 1 = fq 1 1 := rfl
theorem zero_fq : dq 0 = fq 0 1 := rfl
theorem _root_.Ra.Sq.one {B : Nat} : Sq 1 (B + 1) 1 := ⟨1, by rw [Rat.mkRat_one] <;> rfl, Bd.one⟩
theorem dot_two (a : Int) : dotQ [0, a] [0, 1] = (a : Rat) := by
  show ((0 : Int) : Rat) * 0 + ((a : Rat) * 1 + 0) = (a : Rat)
  grind
theorem _root_.Ra.Sq.same {D E B : Nat} {q : Rat} (h : Sq D B q) (e : D = E) : Sq E B q := by rw [← e]; exact h
theorem holds_dec (rs : List (List Int)) (qs : List Rat) : decide (∀ r ∈ rs, holdQ r qs) = true ↔ ∀ r ∈ rs, holdQ r qs := decide_eq_true_iff
section
variable {P : Program} {w : World} {K : PySem.W.Frag} {mg : Str → Option Value} {base : Heap} {f : Addr} {fd : FuncData}
theorem ok__law_other (T : Txt K mg) (F : FunD K "_law_other" "_law_other" (defArgs s_law_other) (defBody s_law_other) (defScope s_law_other) [] [] f fd)  : FnOk P w K mg base CX0 1 f fd ["_law_shares", "_law_cell"] (sp__law_other K) := by
  refine fn_ok F sc__law_other (fun _ => rfl) (fun cdv A' outer s H E hr => ⟨_, (pss_cons (ps_asg (pv 0) (tup_K (K := K) (n := 2) rfl rfl (pgs_cons (pg_name (i := 2) sc__law_other.nd rfl (Or.inl rfl)) (pgs_cons (pg_name (i := 3) sc__law_other.nd rfl (Or.inl rfl)) pgs_nil))))
      (pss_cons (ps_set (i := 4) sc__law_other.nd rfl (Or.inl rfl) (pe_op op_mod (pv 1) pe_int))
      (pss_cons (ps_if (PW.pt (pw_or (pt_cmpR (eq_K (K := K) rfl hr.units) (pv 4) pe_int (nomark _)) (pw_or1 (pt_cmpR (eq_K (K := K) rfl hr.units) (pv 3) (pe_lst pa_nil) (nomark _))))) (pss_one (ps_ret (pe_tup (pa_cons (pe_op (add_K (K := K) rfl) (pv 2) (pe_ix (ix_K (K := K) rfl) (pe_lst (pa_cons pe_int (pa_cons (pe_un un_neg pe_int) pa_nil))) (pe_op op_mod (pe_op op_fdivW (pv 1) pe_int) pe_int) (fun _ _ => rfl))) (pa_cons (pv 3) pa_nil))))) pss_nil)
      (pss_cons (ps_set (i := 5) sc__law_other.nd rfl (Or.inl rfl) (pe_op op_mod (pe_op op_fdivW (pv 1) pe_int) (pe_callB (len_K (K := K) rfl) rfl T.m_len bt_len (pa_cons (pv 3) pa_nil))))
      (pss_cons (ps_set (i := 6) sc__law_other.nd rfl (Or.inl rfl) (pe_ix (ix_K (K := K) rfl) (pe_lst (pa_cons (pe_op (add_K (K := K) rfl) (pe_ix (ix_K (K := K) rfl) (pv 3) (pv 5) (fun _ _ => rfl)) pe_int) (pa_cons (pe_op op_sub (pe_ix (ix_K (K := K) rfl) (pv 3) (pv 5) (fun _ _ => rfl)) pe_int) (pa_cons pe_bl (pa_cons (pe_op (add_K (K := K) rfl) (pe_ix (ix_K (K := K) rfl) (pv 3) (pv 5) (fun _ _ => rfl)) pe_int) pa_nil))))) (pe_op op_sub (pv 4) pe_int) (fun _ _ => rfl)))
      (pss_one (ps_ret (pe_tup (pa_cons (pv 2) (pa_cons (pe_op (add_K (K := K) rfl) (pe_op (add_K (K := K) rfl) (pe_slice (sl_K (K := K) rfl) (pv 3) po_none (po_some (pv 5))) (pe_lst (pa_cons (pv 6) pa_nil))) (pe_slice (sl_K (K := K) rfl) (pv 3) (po_some (pe_op (add_K (K := K) rfl) (pv 5) pe_int)) po_none)) pa_nil)))))))))), ?_⟩)
  rintro ⟨o, ns, c, B⟩ ⟨hl, h7, ho, hn⟩
  have hl : ns.length ≤ 900 := hl
  have h7 : 7 ≤ B := h7
  have ho : Bd B o := ho
  have hn : ∀ x ∈ ns, Bd B x := hn
  have b1 : ∀ s : Int, s.natAbs ≤ 1 → Bd B s := fun s hs => small_b (by omega) h7
  refine rq_asg (R := fun d => d = .tup [.int o, dl ns]) (ev_var rfl) fun d e => ?_
  subst e
  refine ⟨_, _, tg_tup rfl (tgs_cons tg_name (tgs_cons tg_name tgs_nil)), ?_⟩
  refine rq_setD (ev_mod (by decide) (ev_var rfl) ev_int) ?_
  have q5 := mod_lt (x := c) (m := 5) (by decide)
  refine rq_if (et_orD (etD (ev_eqI (ev_var rfl) ev_int)) fun _ => etD (ev_eqNil (ev_var rfl) ev_nil.toD)) (fun _ => ?_) (fun z => r_next ?_)
  · obtain ⟨s, hs, hs'⟩ := pick2 (c / 5) 1 (-1)
    have bs : s.natAbs ≤ 1 := by rcases hs' with h | h <;> rw [h] <;> decide
    refine r_retD (ev_tup (ea_consD (ev_add (ev_var rfl) (ev_ixL hs (ev_lstD (ea_consD ev_int (ea_consD (ev_neg ev_int) ea_nil)) (by show 2 ≤ 100000; decide)).toD (ev_mod (by decide) (ev_div (by decide) (lg_small (by decide)) (ev_var rfl) ev_int) ev_int))) (ea_consD (ev_var rfl) ea_nil)) (by show 2 ≤ 100000; decide)) ?_
    exact ok_pair (n := 1) (ok_intD (ho.add (b1 s bs))) (ok_ints (n := 0) (by omega) fun x hx => (hn x hx).mono (Nat.le_succ _))
  have z : (decide (c % 5 = 0) || (ns.map D.int).isEmpty) = false := z.symm
  rw [Bool.or_eq_false_iff] at z
  have z1 : c % 5 ≠ 0 := of_decide_eq_false z.1
  have nn : 0 < ns.length := by
    cases ns with
    | nil => exact absurd z.2 (by decide)
    | cons a b => exact Nat.succ_pos _
  have q6 := mod_lt (x := c / 10) (m := (ns.length : Int)) (by omega)
  obtain ⟨k, hk⟩ : ∃ k : Nat, c / 10 % (ns.length : Int) = (k : Int) := ⟨_, (Int.toNat_of_nonneg q6.1).symm⟩
  have kl : k < ns.length := by omega
  refine rq_setD (d := .int k) (ev_is (ev_mod (j := (ns.length : Int)) (by omega) (ev_div (by decide) (lg_small (by decide)) (ev_var rfl) ev_int) (ev_is (ev_len (ev_var rfl)) (by rw [List.length_map]))) (by rw [hk])) ?_
  obtain ⟨x, hx, mx⟩ := get_ex kl
  have bx := hn x mx
  obtain ⟨d, hd, od⟩ : ∃ d : D, L2.atI [D.int (x + 1), D.int (x - 1), D.bl true, D.int (x + 1)] (c % 5 - 1) = some d ∧ Ok (B + 1) 0 d := by
    have h3 : c % 5 - 1 = 0 ∨ c % 5 - 1 = 1 ∨ c % 5 - 1 = 2 ∨ c % 5 - 1 = 3 := by omega
    rcases h3 with h | h | h | h <;> rw [h]
    · exact ⟨_, rfl, ok_intD (bx.add (b1 1 (by decide)))⟩
    · exact ⟨_, rfl, ok_intD (bx.sub (b1 1 (by decide)))⟩
    · exact ⟨_, rfl, trivial⟩
    · exact ⟨_, rfl, ok_intD (bx.add (b1 1 (by decide)))⟩
  have hx' : L2.atI (ns.map D.int) (k : Int) = some (.int x) := at_ints hx
  refine rq_setD (d := d) (ev_ixL hd (ev_lstD (ea_consD (ev_add (ev_ixL hx' (ev_var rfl) (ev_var rfl)) ev_int) (ea_consD (ev_sub (ev_ixL hx' (ev_var rfl) (ev_var rfl)) ev_int) (ea_consD ev_bl (ea_consD (ev_add (ev_ixL hx' (ev_var rfl) (ev_var rfl)) ev_int) ea_nil)))) (by show 4 ≤ 100000; decide)).toD (ev_sub (ev_var rfl) ev_int)) ?_
  refine r_ret ((ev_tupR (Rs := fun ds => ∃ y, ds = [.int o, y] ∧ Ok (B + 1) 1 y) ((ea_cons (R := fun d => d = .int o) (ev_var rfl) (ea_cons (ev_splice (R := fun e => e = d) (xs := ns.map D.int) (k := k) (by rw [List.length_map]; omega) (ev_var rfl) (ev_var rfl) (ev_is (ev_add (ev_var rfl) ev_int) rfl) (ev_var rfl)) ea_nil)).mono ?_) (fun ds ⟨y, e, _⟩ => by rw [e]; show 2 ≤ 100000; decide)).mono ?_)
  · rintro ds ⟨d1, r, e, e1, d2, r2, e2, ⟨e', e3, e4⟩, e5⟩
    refine ⟨d2, by rw [e, e1, e2, e5], ?_⟩
    rw [e3, e4]
    refine ⟨by rw [List.length_append, List.length_append, List.length_take, List.length_drop, List.length_map, List.length_singleton]; omega, fun y hy => ?_⟩
    have iy : ∀ y ∈ ns.map D.int, Ok (B + 1) 0 y := fun y hy => by
      obtain ⟨i, hi, rfl⟩ := List.mem_map.mp hy
      exact ok_intD ((hn i hi).mono (Nat.le_succ _))
    rcases List.mem_append.mp hy with hy | hy
    · rcases List.mem_append.mp hy with hy | hy
      · exact iy y (List.mem_of_mem_take hy)
      · rw [List.mem_singleton.mp hy]; exact od
    · exact iy y (List.mem_of_mem_drop hy)
  · rintro d' ⟨ds, e, y, e2, hy⟩
    rw [e, e2]
    exact ok_pair (n := 1) (ok_intD (ho.mono (Nat.le_succ _))) hy

theorem ok__law_changed {n : Nat} (T : Txt K mg) (F : FunD K "_law_changed" "_law_changed" (defArgs s_law_changed) (defBody s_law_changed) (defScope s_law_changed) [] [] f fd) (k__law_changed : Cal P w K mg base "_law_changed" n ["_law_some", "_law_cell"] (sp__law_changed K n)) (k__law_other : Cal P w K mg base "_law_other" 1 ["_law_shares", "_law_cell"] (sp__law_other K)) (hn : 1 ≤ n) : FnOk P w K mg base CX0 (n + 1) f fd ["_law_some", "_law_cell"] (sp__law_changed K (n + 1)) := by
  refine fn_ok F sc__law_changed (fun _ => rfl) (fun cdv A' outer s H E hr => ⟨_, (pss_cons (ps_if (pt_cmpR (eq_K (K := K) rfl hr.units) (pv 0) (pe_lst pa_nil) (nomark _)) (pss_one (ps_ret (pe_lst (pa_cons (pe_tup (pa_cons pe_int (pa_cons (pe_lst pa_nil) pa_nil))) pa_nil)))) pss_nil)
      (pss_cons (ps_set (i := 2) sc__law_changed.nd rfl (Or.inl rfl) (pe_op op_mod (pv 1) (pe_callB (len_K (K := K) rfl) rfl T.m_len bt_len (pa_cons (pv 0) pa_nil))))
      (pss_cons (ps_set (i := 1) sc__law_changed.nd rfl (Or.inl rfl) (pe_op op_fdivW (pv 1) (pe_callB (len_K (K := K) rfl) rfl T.m_len bt_len (pa_cons (pv 0) pa_nil))))
      (pss_cons (ps_if (pt_val (pe_callB (isi_K (K := K) rfl) rfl T.m_isinstance bt_isinstance (pa_cons (pe_ix (ix_K (K := K) rfl) (pv 0) (pv 2) (fun _ _ => rfl)) (pa_cons (pe_bltn (v := .ty "tuple") rfl T.m_tuple bt_tuple rfl) pa_nil)))) (pss_cons (ps_if (pt_cmpR (eq_K (K := K) rfl hr.units) (pe_op op_mod (pv 1) pe_int) pe_int (nomark _)) (pss_one (ps_ret (pe_op (add_K (K := K) rfl) (pe_slice (sl_K (K := K) rfl) (pv 0) po_none (po_some (pv 2))) (pe_slice (sl_K (K := K) rfl) (pv 0) (po_some (pe_op (add_K (K := K) rfl) (pv 2) pe_int)) po_none)))) pss_nil)
      (pss_one (ps_ret (pe_op (add_K (K := K) rfl) (pe_op (add_K (K := K) rfl) (pe_slice (sl_K (K := K) rfl) (pv 0) po_none (po_some (pv 2))) (pe_lst (pa_cons (pe_cal k__law_other (hr.mono hn) rfl (pa_cons (pe_ix (ix_K (K := K) rfl) (pv 0) (pv 2) (fun _ _ => rfl)) (pa_cons (pe_op op_fdivW (pv 1) pe_int) pa_nil))) pa_nil))) (pe_slice (sl_K (K := K) rfl) (pv 0) (po_some (pe_op (add_K (K := K) rfl) (pv 2) pe_int)) po_none))))) pss_nil)
      (pss_cons (ps_if (pt_cmpR (eq_K (K := K) rfl hr.units) (pe_op op_mod (pv 1) pe_int) pe_int (nomark _)) (pss_one (ps_ret (pe_op (add_K (K := K) rfl) (pe_op (add_K (K := K) rfl) (pe_slice (sl_K (K := K) rfl) (pv 0) po_none (po_some (pv 2))) (pe_lst (pa_cons pe_non pa_nil))) (pe_slice (sl_K (K := K) rfl) (pv 0) (po_some (pe_op (add_K (K := K) rfl) (pv 2) pe_int)) po_none)))) pss_nil)
      (pss_cons (ps_if (pt_cmpR (eq_K (K := K) rfl hr.units) (pe_op op_mod (pv 1) pe_int) pe_int (nomark _)) (pss_one (ps_ret (pe_op (add_K (K := K) rfl) (pe_slice (sl_K (K := K) rfl) (pv 0) po_none (po_some (pv 2))) (pe_slice (sl_K (K := K) rfl) (pv 0) (po_some (pe_op (add_K (K := K) rfl) (pv 2) pe_int)) po_none)))) pss_nil)
      (pss_one (ps_ret (pe_op (add_K (K := K) rfl) (pe_op (add_K (K := K) rfl) (pe_slice (sl_K (K := K) rfl) (pv 0) po_none (po_some (pv 2))) (pe_lst (pa_cons (pe_cal k__law_changed hr rfl (pa_cons (pe_ix (ix_K (K := K) rfl) (pv 0) (pv 2) (fun _ _ => rfl)) (pa_cons (pe_op op_fdivW (pv 1) pe_int) pa_nil))) pa_nil))) (pe_slice (sl_K (K := K) rfl) (pv 0) (po_some (pe_op (add_K (K := K) rfl) (pv 2) pe_int)) po_none)))))))))), ?_⟩)
  rintro ⟨d, c, m⟩ ⟨hm, hd⟩
  have hm : m + 1 ≤ n + 1 := hm
  cases m with
  | zero => exact hd.elim
  | succ m =>
  obtain ⟨xs, rfl, lx, hx⟩ := hd
  have ok1 : ∀ x ∈ xs, Ok 2001 (m + 2) x := fun x h => by
    rcases hx x h with h | h
    · exact (h.ok.wide (by decide)).le (by omega)
    · exact (h.ok.wide (by decide)).le (by omega)
  refine rq_if (etD (ev_eqNil (ev_var rfl) ev_nil.toD)) (fun _ => ?_) (fun z => r_next ?_)
  · refine r_retD (ev_lstD (ea_consD (ev_tup (ds := [.int 1, .lst []]) (ea_consD ev_int (ea_consD ev_nil.toD ea_nil)) (by show 2 ≤ 100000; decide)) ea_nil) (by show 1 ≤ 100000; decide)).toD ?_
    refine ⟨by show 1 ≤ 1000; decide, fun y hy => ?_⟩
    rw [List.mem_singleton.mp hy]
    exact ok_pair (n := m + 1) (ok_intD (small_b (by decide) (by decide))) ⟨Nat.zero_le _, fun z hz => nomatch hz⟩
  have z : xs.isEmpty = false := z.symm
  have nn : 0 < xs.length := by
    cases xs with
    | nil => exact absurd z (by decide)
    | cons a b => exact Nat.succ_pos _
  have q6 := mod_lt (x := c) (m := (xs.length : Int)) (by omega)
  obtain ⟨k, hk⟩ : ∃ k : Nat, c % (xs.length : Int) = (k : Int) := ⟨_, (Int.toNat_of_nonneg q6.1).symm⟩
  have kl : k < xs.length := by omega
  refine rq_setD (d := .int k) (ev_is (ev_mod (j := (xs.length : Int)) (by omega) (ev_var rfl) (ev_len (ev_var rfl))) (by rw [hk])) ?_
  have lg : (xs.length : Int).natAbs.log2 < 9000 := Nat.lt_of_lt_of_le ((Bd.nat (a := 10) (by omega)).log (by decide)) (by decide)
  refine rq_setD (ev_div (j := (xs.length : Int)) (by omega) lg (ev_var rfl) (ev_len (ev_var rfl))) ?_
  obtain ⟨c', hc'⟩ : ∃ c', c' = c / (xs.length : Int) := ⟨_, rfl⟩
  rw [← hc']
  obtain ⟨x, hx1, mx⟩ := get_ex kl
  have hat : L2.atI xs (k : Int) = some x := at_nat hx1
  have spl : ∀ y, Ok 2001 (m + 2) y → Ok 2001 (m + 1 + 2) (.lst (xs.take k ++ [y] ++ xs.drop (k + 1))) := fun y hy => ⟨by rw [List.length_append, List.length_append, List.length_take, List.length_drop, List.length_singleton]; omega, fun e he => by
    rcases List.mem_append.mp he with he | he
    · rcases List.mem_append.mp he with he | he
      · exact ok1 e (List.mem_of_mem_take he)
      · rw [List.mem_singleton.mp he]; exact hy
    · exact ok1 e (List.mem_of_mem_drop he)⟩
  have cut : Ok 2001 (m + 1 + 2) (.lst (xs.take k ++ xs.drop (k + 1))) := ⟨by rw [List.length_append, List.length_take, List.length_drop]; omega, fun e he => by
    rcases List.mem_append.mp he with he | he
    · exact ok1 e (List.mem_of_mem_take he)
    · exact ok1 e (List.mem_of_mem_drop he)⟩
  refine rq_if (etB (ev_isi (ok1 x mx).ty (kit_tuple (ok1 x mx).ty) (ev_ixL hat (ev_var rfl) (ev_var rfl)))) (fun hU => ?_) (fun hU => r_next ?_)
  · have hU : true = isU x := hU
    have sh : IsSh 2000 x := by
      rcases hx x mx with h | h
      · exact h
      · cases m with
        | zero => exact h.elim
        | succ m =>
          obtain ⟨ys, rfl, _⟩ := h
          cases hU
    obtain ⟨o, ns, rfl, l9, bo, bn⟩ := sh
    refine rq_if (etD (ev_eqI (ev_mod (by decide) (ev_var rfl) ev_int) ev_int)) (fun _ => r_retD (ev_cutout (by omega) (ev_var rfl) (ev_var rfl) (ev_is (ev_add (ev_var rfl) ev_int) rfl)) cut) (fun _ => r_next (r_ret ((ev_splice (by omega) (ev_var rfl) (ev_var rfl) (ev_is (ev_add (ev_var rfl) ev_int) rfl) (ev_callD (o, ns, c' / 3, 2000) (ea_consD (ev_ixL hat (ev_var rfl) (ev_var rfl)) (ea_consD (ev_div (by decide) (lg_small (by decide)) (ev_var rfl) ev_int) ea_nil)) ⟨l9, by show 7 ≤ 2000; decide, bo, bn⟩)).mono fun d ⟨y, e, hy⟩ => ?_)))
    rw [e]
    have hy : Ok 2001 2 y := hy
    exact spl y (hy.le (by omega))
  have sub : Tr 2000 m x := by
    rcases hx x mx with h | h
    · obtain ⟨o, ns, rfl, _⟩ := h
      cases hU
    · exact h
  refine rq_if (etD (ev_eqI (ev_mod (by decide) (ev_var rfl) ev_int) ev_int)) (fun _ => r_ret ((ev_splice (by omega) (ev_var rfl) (ev_var rfl) (ev_is (ev_add (ev_var rfl) ev_int) rfl) ev_non).mono fun d ⟨y, e, hy⟩ => by rw [e, hy]; exact spl _ trivial)) (fun _ => r_next ?_)
  refine rq_if (etD (ev_eqI (ev_mod (by decide) (ev_var rfl) ev_int) ev_int)) (fun _ => r_retD (ev_cutout (by omega) (ev_var rfl) (ev_var rfl) (ev_is (ev_add (ev_var rfl) ev_int) rfl)) cut) (fun _ => r_next ?_)
  refine r_ret ((ev_splice (by omega) (ev_var rfl) (ev_var rfl) (ev_is (ev_add (ev_var rfl) ev_int) rfl) (ev_callD (x, c' / 7, m) (ea_consD (ev_ixL hat (ev_var rfl) (ev_var rfl)) (ea_consD (ev_div (by decide) (lg_small (by decide)) (ev_var rfl) ev_int) ea_nil)) ⟨by show m + 1 ≤ n; omega, sub⟩)).mono fun d ⟨y, e, hy⟩ => ?_)
  rw [e]
  exact spl y hy

theorem ok__law_spoilt (T : Txt K mg) (F : FunD K "_law_spoilt" "_law_spoilt" (defArgs s_law_spoilt) (defBody s_law_spoilt) (defScope s_law_spoilt) [] [] f fd) (k__law_changed : Cal P w K mg base "_law_changed" 21 ["_law_some", "_law_cell"] (sp__law_changed K 21)) : FnOk P w K mg base CX0 22 f fd ["_law_parts", "_law_cell"] (sp__law_spoilt K) := by
  refine fn_ok F sc__law_spoilt (fun _ => rfl) (fun cdv A' outer s H E hr => ⟨_, (pss_cons (ps_asg (pe_slice (sl_K (K := K) rfl) (pv 0) po_none (po_some pe_int)) (unl_K (K := K) (n := 4) rfl rfl (pgs_cons (pg_name (i := 2) sc__law_spoilt.nd rfl (Or.inl rfl)) (pgs_cons (pg_name (i := 3) sc__law_spoilt.nd rfl (Or.inl rfl)) (pgs_cons (pg_name (i := 4) sc__law_spoilt.nd rfl (Or.inl rfl)) (pgs_cons (pg_name (i := 5) sc__law_spoilt.nd rfl (Or.inl rfl)) pgs_nil))))))
      (pss_cons (ps_asg (pe_slice (sl_K (K := K) rfl) (pv 0) (po_some pe_int) po_none) (unl_K (K := K) (n := 5) rfl rfl (pgs_cons (pg_name (i := 6) sc__law_spoilt.nd rfl (Or.inl rfl)) (pgs_cons (pg_name (i := 7) sc__law_spoilt.nd rfl (Or.inl rfl)) (pgs_cons (pg_name (i := 8) sc__law_spoilt.nd rfl (Or.inl rfl)) (pgs_cons (pg_name (i := 9) sc__law_spoilt.nd rfl (Or.inl rfl)) (pgs_cons (pg_name (i := 10) sc__law_spoilt.nd rfl (Or.inl rfl)) pgs_nil)))))))
      (pss_cons (ps_set (i := 11) sc__law_spoilt.nd rfl (Or.inl rfl) (pe_op op_mod (pv 1) pe_int))
      (pss_cons (ps_set (i := 1) sc__law_spoilt.nd rfl (Or.inl rfl) (pe_op op_fdivW (pv 1) pe_int))
      (pss_cons (ps_if (pt_cmpR (eq_K (K := K) rfl hr.units) (pv 11) pe_int (nomark _)) (pss_one (ps_set (i := 3) sc__law_spoilt.nd rfl (Or.inl rfl) (pe_cal k__law_changed (hr.mono (by decide)) rfl (pa_cons (pv 3) (pa_cons (pv 1) pa_nil))))) pss_nil)
      (pss_cons (ps_if (pt_cmpR (eq_K (K := K) rfl hr.units) (pv 11) pe_int (nomark _)) (pss_one (ps_set (i := 4) sc__law_spoilt.nd rfl (Or.inl rfl) (pe_cal k__law_changed (hr.mono (by decide)) rfl (pa_cons (pv 4) (pa_cons (pv 1) pa_nil))))) pss_nil)
      (pss_cons (ps_if (pt_cmpR (eq_K (K := K) rfl hr.units) (pv 11) pe_int (nomark _)) (pss_one (ps_set (i := 8) sc__law_spoilt.nd rfl (Or.inl rfl) (pe_cal k__law_changed (hr.mono (by decide)) rfl (pa_cons (pv 8) (pa_cons (pv 1) pa_nil))))) pss_nil)
      (pss_cons (ps_if (pt_cmpR (eq_K (K := K) rfl hr.units) (pv 11) pe_int (nomark _)) (pss_one (ps_set (i := 9) sc__law_spoilt.nd rfl (Or.inl rfl) (pe_cal k__law_changed (hr.mono (by decide)) rfl (pa_cons (pv 9) (pa_cons (pv 1) pa_nil))))) pss_nil)
      (pss_cons (ps_if (pt_cmpR (eq_K (K := K) rfl hr.units) (pv 11) pe_int (nomark _)) (pss_one (ps_set (i := 6) sc__law_spoilt.nd rfl (Or.inl rfl) (pe_op (add_K (K := K) rfl) (pv 6) pe_int))) pss_nil)
      (pss_cons (ps_if (pt_cmpR (eq_K (K := K) rfl hr.units) (pv 11) pe_int (nomark _)) (pss_one (ps_set (i := 7) sc__law_spoilt.nd rfl (Or.inl rfl) (pe_op op_sub (pv 7) pe_int))) pss_nil)
      (pss_cons (ps_set (i := 12) sc__law_spoilt.nd rfl (Or.inl rfl) (pe_lst (pa_cons (pv 2) (pa_cons (pv 3) (pa_cons (pv 4) (pa_cons (pv 5) (pa_cons (pv 6) pa_nil)))))))
      (pss_one (ps_ret (pe_op (add_K (K := K) rfl) (pv 12) (pe_lst (pa_cons (pv 7) (pa_cons (pv 8) (pa_cons (pv 9) (pa_cons (pv 10) pa_nil))))))))))))))))))), ?_⟩)
  rintro ⟨F, c⟩ h
  have h : TrF F := h
  have okt : ∀ {n : Nat} {d : D}, Tr 2000 n d → n ≤ 2 → ∃ q, Ok 2001 q d ∧ q ≤ 20 := fun h l => ⟨_, h.ok.wide (by decide), by omega⟩
  refine rq_asg (R := fun d => d = .lst [room F.room, F.starts, F.steps, dt F.measure]) ((ev_slL (xs := [room F.room, F.starts, F.steps, dt F.measure, .int F.step, .int F.top, F.falls, F.floors, F.tops]) (ev_var rfl) eo_none (eo_some ev_int)).toD) fun d e => ?_
  subst e
  refine ⟨_, _, tg_unl rfl (tgs_cons tg_name (tgs_cons tg_name (tgs_cons tg_name (tgs_cons tg_name tgs_nil)))), ?_⟩
  refine rq_asg (R := fun d => d = .lst [.int F.step, .int F.top, F.falls, F.floors, F.tops]) ((ev_slL (xs := [room F.room, F.starts, F.steps, dt F.measure, .int F.step, .int F.top, F.falls, F.floors, F.tops]) (ev_var rfl) (eo_some ev_int) eo_none).toD) fun d e => ?_
  subst e
  refine ⟨_, _, tg_unl rfl (tgs_cons tg_name (tgs_cons tg_name (tgs_cons tg_name (tgs_cons tg_name (tgs_cons tg_name tgs_nil))))), ?_⟩
  refine rq_setD (ev_mod (by decide) (ev_var rfl) ev_int) ?_
  refine rq_setD (ev_div (by decide) (lg_small (by decide)) (ev_var rfl) ev_int) ?_
  obtain ⟨wy, hwy⟩ : ∃ wy, wy = c % 12 := ⟨_, rfl⟩
  obtain ⟨cc, hcc⟩ : ∃ cc, cc = c / 12 := ⟨_, rfl⟩
  rw [← hwy, ← hcc]
  refine r_seq (fun ρ => ∃ a1, ρ = [some (.p (partsD F)), some (.p (.int cc)), some (.p (room F.room)), some (.p a1), some (.p F.steps), some (.p (dt F.measure)), some (.p (.int F.step)), some (.p (.int F.top)), some (.p F.falls), some (.p F.floors), some (.p F.tops), some (.p (.int wy)), none] ∧ ∃ q, Ok 2001 q a1 ∧ q ≤ 20) ?_ ?_
  · refine r_if (etD (ev_eqI (ev_var rfl) ev_int)) (fun _ => r_set (ev_callD (F.starts, cc, 1) (ea_consD (ev_var rfl) (ea_consD (ev_var rfl) ea_nil)) ⟨by show 1 + 1 ≤ 21; decide, h.t1⟩) fun d hd => ⟨d, rfl, 3, hd, by decide⟩) (fun _ => r_next ⟨_, rfl, okt h.t1 (by decide)⟩)
  rintro ρ1 ⟨a1, rfl, o1⟩
  refine r_seq (fun ρ => ∃ a2, ρ = [some (.p (partsD F)), some (.p (.int cc)), some (.p (room F.room)), some (.p a1), some (.p a2), some (.p (dt F.measure)), some (.p (.int F.step)), some (.p (.int F.top)), some (.p F.falls), some (.p F.floors), some (.p F.tops), some (.p (.int wy)), none] ∧ ∃ q, Ok 2001 q a2 ∧ q ≤ 20) ?_ ?_
  · refine r_if (etD (ev_eqI (ev_var rfl) ev_int)) (fun _ => r_set (ev_callD (F.steps, cc, 2) (ea_consD (ev_var rfl) (ea_consD (ev_var rfl) ea_nil)) ⟨by show 2 + 1 ≤ 21; decide, h.t2⟩) fun d hd => ⟨d, rfl, 4, hd, by decide⟩) (fun _ => r_next ⟨_, rfl, okt h.t2 (by decide)⟩)
  rintro ρ1 ⟨a2, rfl, o2⟩
  refine r_seq (fun ρ => ∃ a3, ρ = [some (.p (partsD F)), some (.p (.int cc)), some (.p (room F.room)), some (.p a1), some (.p a2), some (.p (dt F.measure)), some (.p (.int F.step)), some (.p (.int F.top)), some (.p a3), some (.p F.floors), some (.p F.tops), some (.p (.int wy)), none] ∧ ∃ q, Ok 2001 q a3 ∧ q ≤ 20) ?_ ?_
  · refine r_if (etD (ev_eqI (ev_var rfl) ev_int)) (fun _ => r_set (ev_callD (F.falls, cc, 2) (ea_consD (ev_var rfl) (ea_consD (ev_var rfl) ea_nil)) ⟨by show 2 + 1 ≤ 21; decide, h.t3⟩) fun d hd => ⟨d, rfl, 4, hd, by decide⟩) (fun _ => r_next ⟨_, rfl, okt h.t3 (by decide)⟩)
  rintro ρ1 ⟨a3, rfl, o3⟩
  refine r_seq (fun ρ => ∃ a4, ρ = [some (.p (partsD F)), some (.p (.int cc)), some (.p (room F.room)), some (.p a1), some (.p a2), some (.p (dt F.measure)), some (.p (.int F.step)), some (.p (.int F.top)), some (.p a3), some (.p a4), some (.p F.tops), some (.p (.int wy)), none] ∧ ∃ q, Ok 2001 q a4 ∧ q ≤ 20) ?_ ?_
  · refine r_if (etD (ev_eqI (ev_var rfl) ev_int)) (fun _ => r_set (ev_callD (F.floors, cc, 1) (ea_consD (ev_var rfl) (ea_consD (ev_var rfl) ea_nil)) ⟨by show 1 + 1 ≤ 21; decide, h.t4⟩) fun d hd => ⟨d, rfl, 3, hd, by decide⟩) (fun _ => r_next ⟨_, rfl, okt h.t4 (by decide)⟩)
  rintro ρ1 ⟨a4, rfl, o4⟩
  refine r_seq (fun ρ => ∃ s : Int, ρ = [some (.p (partsD F)), some (.p (.int cc)), some (.p (room F.room)), some (.p a1), some (.p a2), some (.p (dt F.measure)), some (.p (.int s)), some (.p (.int F.top)), some (.p a3), some (.p a4), some (.p F.tops), some (.p (.int wy)), none] ∧ (s = F.step ∨ s = F.step + 1)) ?_ ?_
  · refine r_if (etD (ev_eqI (ev_var rfl) ev_int)) (fun _ => r_set (ev_add (ev_var rfl) ev_int) fun d hd => by subst hd; exact ⟨_, rfl, .inr rfl⟩) (fun _ => r_next ⟨_, rfl, .inl rfl⟩)
  rintro ρ1 ⟨s, rfl, hs⟩
  refine r_seq (fun ρ => ∃ tp : Int, ρ = [some (.p (partsD F)), some (.p (.int cc)), some (.p (room F.room)), some (.p a1), some (.p a2), some (.p (dt F.measure)), some (.p (.int s)), some (.p (.int tp)), some (.p a3), some (.p a4), some (.p F.tops), some (.p (.int wy)), none] ∧ (tp = F.top ∨ tp = F.top - 1)) ?_ ?_
  · refine r_if (etD (ev_eqI (ev_var rfl) ev_int)) (fun _ => r_set (ev_sub (ev_var rfl) ev_int) fun d hd => by subst hd; exact ⟨_, rfl, .inr rfl⟩) (fun _ => r_next ⟨_, rfl, .inl rfl⟩)
  rintro ρ1 ⟨tp, rfl, htp⟩
  refine rq_setD (d := .lst [room F.room, a1, a2, dt F.measure, .int s]) (ev_lstD (ea_consD (ev_var rfl) (ea_consD (ev_var rfl) (ea_consD (ev_var rfl) (ea_consD (ev_var rfl) (ea_consD (ev_var rfl) ea_nil))))) (by show 5 ≤ 100000; decide)).toD ?_
  refine r_retD (ev_cat (by show 5 + 4 ≤ 100000; decide) (ev_var rfl) (ev_lstD (ea_consD (ev_var rfl) (ea_consD (ev_var rfl) (ea_consD (ev_var rfl) (ea_consD (ev_var rfl) ea_nil)))) (by show 4 ≤ 100000; decide)).toD).toD ⟨⟨F.room, a1, a2, F.measure, s, tp, a3, a4, F.tops⟩, rfl, ⟨rfl, rfl, hs, htp, o1, o2, o3, o4, ⟨2, h.t5.ok.wide (by decide), by decide⟩⟩⟩

theorem ok__law_behind (T : Txt K mg) (F : FunD K "_law_behind" "_law_behind" (defArgs s_law_behind) (defBody s_law_behind) (defScope s_law_behind) [] [] f fd) (k__law_lowest : Cal P w K mg base "_law_lowest" 2 ["_law_top_here", "_law_bottom"] (sp__law_lowest K)) (k__law_along : Cal P w K mg base "_law_along" 4 ["_law_numbers", "_law_values"] (sp__law_along K)) (k__law_plus : Cal P w K mg base "_law_plus" 3 ["_law_one", "_law_other_here"] (sp__law_plus K)) : FnOk P w K mg base CX0 5 f fd ["_law_mode", "_law_point_here", "_law_steering", "_law_pushes"] (sp__law_behind K) := by
  refine fn_ok F sc__law_behind (fun _ => rfl) (fun cdv A' outer s H E hr => ⟨_, (pss_cons (ps_asg (pv 0) (tup_K (K := K) (n := 6) rfl rfl (pgs_cons (pg_name (i := 4) sc__law_behind.nd rfl (Or.inl rfl)) (pgs_cons (pg_name (i := 5) sc__law_behind.nd rfl (Or.inl rfl)) (pgs_cons (pg_name (i := 6) sc__law_behind.nd rfl (Or.inl rfl)) (pgs_cons (pg_name (i := 7) sc__law_behind.nd rfl (Or.inl rfl)) (pgs_cons (pg_name (i := 8) sc__law_behind.nd rfl (Or.inl rfl)) (pgs_cons (pg_name (i := 9) sc__law_behind.nd rfl (Or.inl rfl)) pgs_nil))))))))
      (pss_cons (ps_set (i := 10) sc__law_behind.nd rfl (Or.inl rfl) (pe_lst pa_nil))
      (pss_cons (ps_for PassesOwn.never rfl (pi_range1 rfl T.m_range (pa_cons (pe_callB (len_K (K := K) rfl) rfl T.m_len bt_len (pa_cons (pv 1) pa_nil)) pa_nil)) (pg_name (i := 11) sc__law_behind.nd rfl (Or.inl rfl)) (pss_cons (ps_set (i := 12) sc__law_behind.nd rfl (Or.inl rfl) (pe_cal k__law_plus (hr.mono (by decide)) rfl (pa_cons (pe_cal k__law_along (hr.mono (by decide)) rfl (pa_cons (pe_ix (ix_K (K := K) rfl) (pv 5) (pv 11) (fun _ _ => rfl)) (pa_cons (pv 1) pa_nil))) (pa_cons (pe_cal k__law_along (hr.mono (by decide)) rfl (pa_cons (pe_ix (ix_K (K := K) rfl) (pv 7) (pv 11) (fun _ _ => rfl)) (pa_cons (pv 3) pa_nil))) pa_nil))))
      (pss_cons (ps_set (i := 12) sc__law_behind.nd rfl (Or.inl rfl) (pe_cal k__law_plus (hr.mono (by decide)) rfl (pa_cons (pv 12) (pa_cons (pe_cal k__law_along (hr.mono (by decide)) rfl (pa_cons (pe_lst (pa_cons (pe_ix (ix_K (K := K) rfl) (pv 6) (pv 11) (fun _ _ => rfl)) (pa_cons (pe_ix (ix_K (K := K) rfl) (pv 8) (pv 11) (fun _ _ => rfl)) pa_nil))) (pa_cons (pe_lst (pa_cons (pv 2) (pa_cons (pe_tup (pa_cons pe_int (pa_cons pe_int pa_nil))) pa_nil))) pa_nil))) pa_nil))))
      (pss_one (ps_expr (pe_bm PySem.F.plainAttrs_list PySem.F.slot_list_append PySem.F.type_list_append mt_append (pv 10) (pa_cons (pe_cal k__law_lowest (hr.mono (by decide)) rfl (pa_cons (pe_ix (ix_K (K := K) rfl) (pv 12) pe_int (fun _ _ => rfl)) (pa_cons (pe_op (mul_K (K := K) rfl) (pe_ix (ix_K (K := K) rfl) (pv 12) pe_int (fun _ _ => rfl)) (pv 9)) pa_nil))) pa_nil)))))))
      (pss_one (ps_ret (pv 10)))))), ?_⟩)
  rintro ⟨n, p, m, qs, ws⟩ ⟨hn, hp, wm, lq, M, hM, hM2, h1, h2⟩
  have hn : n ≤ 3 := hn
  have hp : p ≤ 6 := hp
  have wm : WfMd n p m := wm
  have lq : qs.length = n := lq
  refine rq_asg (R := fun d => d = mdT n m) (ev_var rfl) fun d e => ?_
  subst e
  refine ⟨_, _, tg_tup rfl (tgs_cons tg_name (tgs_cons tg_name (tgs_cons tg_name (tgs_cons tg_name (tgs_cons tg_name (tgs_cons tg_name tgs_nil)))))), ?_⟩
  refine rq_ownD ev_nil fun a => ?_
  have M3 : M < 2 ^ 3000 := Nat.lt_of_lt_of_le hM2 (Nat.pow_le_pow_right (by decide) (by decide))
  have M1 : M < 2 ^ 1000 := Nat.lt_of_lt_of_le hM2 (Nat.pow_le_pow_right (by decide) (by decide))
  refine rq_forD (ei_range (n := n) (by omega) (by omega) (ev_is (ev_len (ev_var rfl)) (by rw [List.length_map, lq]))) (fun k ρ => ∃ x11 x12 : Option Sl, ρ = [some (.p (mdT n m)), some (.p (dqs qs)), some (.p (dq 0)), some (.p (dqs ws)), some (.p (room m.rows)), some (.p (tbl m.nexts)), some (.p (dl (zeros n))), some (.p (tbl m.push)), some (.p (dl m.add)), some (.p (.int m.div)), some (.o a (((stepQ n m qs ws).take k).map dq)), x11, x12]) ⟨none, none, rfl⟩ ?_ ?_
  · rintro k d ρ1 hd ⟨x11, x12, rfl⟩
    obtain ⟨hk, rfl⟩ := rangeD_get hd
    have hk : k < n := by omega
    obtain ⟨r, hr, mr⟩ := get_ex (r := m.nexts) (k := k) (by rw [wm.nl]; exact hk)
    obtain ⟨q, hq, mq⟩ := get_ex (r := m.push) (k := k) (by rw [wm.pl]; exact hk)
    obtain ⟨c, hc, mc⟩ := get_ex (r := m.add) (k := k) (by rw [wm.al]; exact hk)
    have lr := wm.nw r mr
    have lq' := wm.pw q mq
    have bc := wm.ba c mc
    have s1 : Sq M 40010 (dotQ r qs) := (dotQ_sq hM r qs (wm.bn r mr) h1).mono (by omega)
    have s2 : Sq M 40010 (dotQ q ws) := (dotQ_sq hM q ws (wm.bp q mq) h2).mono (by omega)
    have s3 := s1.add hM s2
    refine ⟨_, _, tg_name, ?_⟩
    refine rq_setD (d := dq (dotQ r qs + dotQ q ws)) (ev_is (ev_callD ((dotQ r qs).num, (dotQ r qs).den, (dotQ q ws).num, (dotQ q ws).den) (ea_consD (ev_callD (false, r, qs) (ea_consD (ev_ixL (at_nat (by rw [List.getElem?_map, hr] <;> rfl)) (ev_var rfl) (ev_var rfl)) (ea_consD (ev_var rfl) ea_nil)) ⟨by show r.length ≤ 10; omega, wm.bn r mr, M, hM, M1, fun q hq => (h1 q hq).mono (by decide)⟩) (ea_consD (ev_callD (false, q, ws) (ea_consD (ev_ixL (at_nat (by rw [List.getElem?_map, hq] <;> rfl)) (ev_var rfl) (ev_var rfl)) (ea_consD (ev_var rfl) ea_nil)) ⟨by show q.length ≤ 10; omega, wm.bp q mq, M, hM, M1, fun q hq => (h2 q hq).mono (by decide)⟩) ea_nil)) ⟨Rat.den_pos _, Rat.den_pos _, Nat.lt_of_le_of_lt (s1.den hM) M3, Nat.lt_of_le_of_lt (s2.den hM) M3, s1.num.mono (by decide), s2.num.mono (by decide)⟩) (by rw [Rat.mkRat_self, Rat.mkRat_self])) ?_
    obtain ⟨v, hv⟩ : ∃ v, v = dotQ r qs + dotQ q ws := ⟨_, rfl⟩
    rw [← hv] at s3 ⊢
    have hz : L2.atI ((zeros n).map D.int) (k : Int) = some (.int 0) := at_ints (by rw [List.getElem?_replicate, if_pos hk])
    have s4 : Sq M 40012 (v + (c : Rat)) := s3.add hM (((Sq.ofInt bc).scale M hM (c := 900) hM2).same (Nat.one_mul M) |>.mono (by decide))
    refine rq_setD (d := dq (v + (c : Rat))) (ev_is (ev_callD (v.num, v.den, ((c : Int) : Rat).num, ((c : Int) : Rat).den) (ea_consD (ev_var rfl) (ea_consD (ev_is (ev_callD (false, [0, c], [0, 1]) (ea_consD (ev_lstD (ea_consD (ev_ixL hz (ev_var rfl) (ev_var rfl)) (ea_consD (ev_ixL (at_ints hc) (ev_var rfl) (ev_var rfl)) ea_nil)) (by show 2 ≤ 100000; decide)).toD (ea_consD (ev_lstD (ea_consD (ev_var rfl) (ea_consD (ev_tup (ds := [.int 1, .int 1]) (ea_consD ev_int (ea_consD ev_int ea_nil)) (by show 2 ≤ 100000; decide)) ea_nil)) (by show 2 ≤ 100000; decide)).toD ea_nil)) ⟨by show 2 ≤ 10; decide, ?_, 1, by decide, Nat.one_lt_two_pow (by decide), ?_⟩) (by rw [dot_two])) ea_nil)) ⟨Rat.den_pos _, Rat.den_pos _, Nat.lt_of_le_of_lt (s3.den hM) M3, ?_, s3.num.mono (by decide), ?_⟩) (by rw [Rat.mkRat_self, Rat.mkRat_self])) ?_
    · intro x hx
      rcases List.mem_cons.mp hx with rfl | hx
      · exact Bd.zero
      · rw [List.mem_singleton.mp hx]; exact bc
    · intro x hx
      rcases List.mem_cons.mp hx with rfl | hx
      · exact Sq.zero
      · rw [List.mem_singleton.mp hx]; exact Sq.one (B := 39999)
    · show ((c : Int) : Rat).den < 2 ^ 3000
      rw [Rat.den_intCast]; exact Nat.one_lt_two_pow (by decide)
    · show Bd 400000 ((c : Int) : Rat).num
      rw [Rat.num_intCast]; exact bc.mono (by decide)
    have dv := wm.dv
    have d7 := wm.d7
    obtain ⟨e, he⟩ : ∃ e : Nat, m.div = (e : Int) := ⟨_, (Int.toNat_of_nonneg (by omega)).symm⟩
    have e0 : 0 < e := by omega
    have e7 : e < 2 ^ 7 := by rw [he] at d7; unfold Bd at d7; rw [Int.natAbs_natCast] at d7; exact d7
    refine r_app (i := 10) (R := fun d => d = dq ((v + (c : Rat)) / (e : Rat))) rfl (by rw [List.length_map, List.length_take]; omega) (ev_is (ev_callD ((v + (c : Rat)).num, (v + (c : Rat)).den * e) (ea_consD (ev_ixT rfl (ev_var rfl) ev_int) (ea_consD (ev_is (ev_mul (Bd.nat (Nat.lt_of_le_of_lt (s4.den hM) M3)) d7 (by decide) (by decide) (by decide) (ev_ixT rfl (ev_var rfl) ev_int) (ev_var rfl)) (by show D.int _ = D.int _; rw [he, Int.natCast_mul])) ea_nil)) ⟨Nat.mul_pos (Rat.den_pos _) e0, ?_⟩) (by rw [mk_div _ _ e0])) fun d ed => ?_
    · show (v + (c : Rat)).den * e < 2 ^ 8000
      calc (v + (c : Rat)).den * e < 2 ^ 3000 * 2 ^ 7 := Nat.mul_lt_mul'' (Nat.lt_of_le_of_lt (s4.den hM) M3) e7
        _ ≤ 2 ^ 8000 := by rw [← Nat.pow_add]; exact Nat.pow_le_pow_right (by decide) (by decide)
    · subst ed
      have es : (stepQ n m qs ws)[k]? = some ((v + (c : Rat)) / (e : Rat)) := by
        unfold stepQ
        rw [List.getElem?_map, List.getElem?_range hk]
        show some ((dotQ (m.nexts.getD k []) qs + dotQ (m.push.getD k []) ws + ((m.add.getD k 0 : Int) : Rat)) / (m.div : Rat)) = _
        rw [List.getD_eq_getElem?_getD, hr, List.getD_eq_getElem?_getD, hq, List.getD_eq_getElem?_getD, hc, hv, he] <;> rfl
      rw [take_snoc es, List.map_append]
      exact ⟨_, _, rfl⟩
  · rintro ρ1 ⟨x11, x12, rfl⟩
    refine r_retO (i := 10) rfl ?_
    rw [rangeD_len, Int.toNat_natCast, List.take_of_length_le (by rw [stepQ_len]; exact Nat.le_refl _)] <;> rfl

theorem ok__law_run (T : Txt K mg) (F : FunD K "_law_run" "_law_run" (defArgs s_law_run) (defBody s_law_run) (defScope s_law_run) [] [] f fd) (k__law_behind : Cal P w K mg base "_law_behind" 5 ["_law_mode", "_law_point_here", "_law_steering", "_law_pushes"] (sp__law_behind K)) (k__law_point : Cal P w K mg base "_law_point" 3 ["_law_cell", "_law_box_here"] (sp__law_point K)) (k__law_lies : Cal P w K mg base "_law_lies" 6 ["_law_room", "_law_point_here"] (sp__law_lies K)) : FnOk P w K mg base CX0 7 f fd ["_law_spec", "_law_point_here", "_law_cells"] (sp__law_run K) := by
  refine fn_ok F sc__law_run (fun _ => rfl) (fun cdv A' outer s H E hr => ⟨_, (pss_cons (ps_asg (pv 0) (tup_K (K := K) (n := 4) rfl rfl (pgs_cons (pg_name (i := 3) sc__law_run.nd rfl (Or.inl rfl)) (pgs_cons (pg_name (i := 4) sc__law_run.nd rfl (Or.inl rfl)) (pgs_cons (pg_name (i := 5) sc__law_run.nd rfl (Or.inl rfl)) (pgs_cons (pg_name (i := 6) sc__law_run.nd rfl (Or.inl rfl)) pgs_nil))))))
      (pss_cons (ps_set (i := 7) sc__law_run.nd rfl (Or.inr rfl) (pe_lst (pa_cons (pv 1) pa_nil)))
      (pss_cons (ps_for PassesOwn.never rfl (seq_K (K := K) rfl (pv 2)) (pg_name (i := 8) sc__law_run.nd rfl (Or.inl rfl)) (pss_cons (ps_setLc (i := 9) rfl sc__law_run.nd rfl rfl (sw_true rfl rfl rfl (by decide +kernel)) (own := [("_law_mode", 10)]) (seq_K (K := K) rfl (pv 5)) (blkOk_by (by kernel_rfl)) (fun _ _ _ _ _ => (pg_name (i := 10) sc__law_run.nd rfl (Or.inl rfl))) (fun _ _ _ _ _ => (pts_one (pt_val (pe_cal k__law_lies (hr.mono (by decide)) rfl (pa_cons (pe_ix (ix_K (K := K) rfl) (pv 10) pe_int (fun _ _ => rfl)) (pa_cons (pe_ix (ix_K (K := K) rfl) (pv 7) (pe_un un_neg pe_int) (fun _ _ => rfl)) pa_nil)))))) (fun _ _ _ _ _ => (pv 10)))
      (pss_cons (ps_if (pt_cmpR (eq_K (K := K) rfl hr.units) (pv 9) (pe_lst pa_nil) (nomark _)) (pss_one ps_break) pss_nil)
      (pss_cons (ps_set (i := 10) sc__law_run.nd rfl (Or.inl rfl) (pe_ix (ix_K (K := K) rfl) (pv 9) (pe_op op_mod (pv 8) (pe_callB (len_K (K := K) rfl) rfl T.m_len bt_len (pa_cons (pv 9) pa_nil))) (fun _ _ => rfl)))
      (pss_cons (ps_set (i := 11) sc__law_run.nd rfl (Or.inl rfl) (pe_cal k__law_point (hr.mono (by decide)) rfl (pa_cons (pe_op op_fdivW (pv 8) pe_int) (pa_cons (pv 4) pa_nil))))
      (pss_one (ps_expr (pe_bm PySem.F.plainAttrs_list PySem.F.slot_list_append PySem.F.type_list_append mt_append (pv 7) (pa_cons (pe_cal k__law_behind (hr.mono (by decide)) rfl (pa_cons (pv 10) (pa_cons (pe_ix (ix_K (K := K) rfl) (pv 7) (pe_un un_neg pe_int) (fun _ _ => rfl)) (pa_cons (pe_tup (pa_cons pe_int (pa_cons pe_int pa_nil))) (pa_cons (pv 11) pa_nil))))) pa_nil)))))))))
      (pss_one (ps_ret (pv 7)))))), ?_⟩)
  rintro ⟨t, u, qs, cs⟩ ⟨h, lq, hq, lc⟩
  have hn : t.n ≤ 3 := h.n3
  have hp : t.ps.length ≤ 6 := h.pl
  have ml : t.ms.length ≤ 40 := h.ml
  have lq : qs.length = t.n := lq
  have lc : cs.length ≤ 30 := lc
  refine rq_asg (R := fun d => d = spD t u) (ev_var rfl) fun d e => ?_
  subst e
  refine ⟨_, _, tg_tup rfl (tgs_cons tg_name (tgs_cons tg_name (tgs_cons tg_name (tgs_cons tg_name tgs_nil)))), ?_⟩
  refine rq_ownD (xs := [dqs qs]) (ev_lstD (ea_consD (ev_var rfl) ea_nil) (by show 1 ≤ 100000; decide)) fun a => ?_
  have pt0 : ∀ (k : Nat) (p : List Rat), [qs][k]? = some p → p.length = t.n ∧ PtOk k p := fun k p hk => by
    cases k with
    | zero =>
      have hk : qs = p := Option.some.inj hk
      subst hk
      exact ⟨lq, 1, by decide, by decide, fun q hq' => (hq q hq').mono (by decide)⟩
    | succ k => exact nomatch hk
  have st0 : RunOk t qs [qs] := ⟨rfl, pt0, fun k p q h1 h2 => nomatch h2⟩
  have fin : ∀ (P : Post) (ρ1 : Rho), P.rt = (fun r => ∃ pts, r = .lst (pts.map dqs) ∧ pts.length ≤ 31 ∧ RunOk t qs pts) → (∃ (x8 x9 x10 x11 : Option Sl) (pts : List (List Rat)), ρ1 = [some (.p (spD t u)), some (.p (dqs qs)), some (.p (dl cs)), some (.p (.int t.n)), some (.p (prs t.ps)), some (.p (.lst (t.ms.map (mdT t.n)))), some (.p (.int u)), some (.o a (pts.map dqs)), x8, x9, x10, x11] ∧ pts.length ≤ 31 ∧ RunOk t qs pts) → Kt.Run K (tRet (tVar 7)) ρ1 P := by
    rintro P ρ1 eP ⟨x8, x9, x10, x11, pts, rfl, l31, ro⟩
    exact r_retO (i := 7) rfl (by rw [eP]; exact ⟨pts, rfl, l31, ro⟩)
  refine rq_forD (ei_lst (ds := cs.map D.int) (ev_var rfl)) (fun k ρ => ∃ (x8 x9 x10 x11 : Option Sl) (pts : List (List Rat)), ρ = [some (.p (spD t u)), some (.p (dqs qs)), some (.p (dl cs)), some (.p (.int t.n)), some (.p (prs t.ps)), some (.p (.lst (t.ms.map (mdT t.n)))), some (.p (.int u)), some (.o a (pts.map dqs)), x8, x9, x10, x11] ∧ pts.length = k + 1 ∧ RunOk t qs pts) ⟨none, none, none, none, [qs], rfl, rfl, st0⟩ ?_ ?_
  · rintro k d ρ1 hd ⟨x8, x9, x10, x11, pts, rfl, hl, ro⟩
    obtain ⟨c, hc, rfl⟩ := map_get hd
    have hk := (List.getElem?_eq_some_iff.mp hc).1
    obtain ⟨p, hp1, mp⟩ := get_ex (r := pts) (k := k) (by omega)
    obtain ⟨lp, e, e0, e7, hs⟩ := ro.pt k p hp1
    have gl : (pts.map dqs).getLast? = some (dqs p) := by
      rw [List.getLast?_eq_getElem?, List.length_map, hl, List.getElem?_map, Nat.add_sub_cancel, hp1] <;> rfl
    have hat : L2.atI (pts.map dqs) (-1) = some (dqs p) := at_last gl
    have M0 : 0 < 12 * e := by omega
    have p211 : (2 : Nat) ^ (7 * k + 1) ≤ 2 ^ 211 := Nat.pow_le_pow_right (by decide) (by omega)
    have M9 : 12 * e < 2 ^ 900 := by
      calc 12 * e < 2 ^ 4 * 2 ^ 211 := Nat.mul_lt_mul'' (by decide) (Nat.lt_of_lt_of_le e7 p211)
        _ ≤ 2 ^ 900 := by rw [← Nat.pow_add]; exact Nat.pow_le_pow_right (by decide) (by decide)
    have M1 : 12 * e < 2 ^ 1000 := Nat.lt_of_lt_of_le M9 (Nat.pow_le_pow_right (by decide) (by decide))
    have hs4 : ∀ q ∈ p, Sq (12 * e) 39000 q := fun q hq => (hs q hq).mono (by omega)
    refine ⟨_, _, tg_name, ?_⟩
    refine rq_set (R := fun d => ∃ es, d = .lst es ∧ ∀ e ∈ es, ∃ m ∈ t.ms, e = mdT t.n m ∧ ∀ r ∈ m.rows, holdQ r p) ((ev_lcF (Rs := fun x => x = t.ms.map (mdT t.n)) (T := fun d b => ∃ m ∈ t.ms, d = mdT t.n m ∧ b = decide (∀ r ∈ m.rows, holdQ r p)) (F := fun d e => e = d) (ei_lst (ev_var rfl)) (fun x e => by rw [e, List.length_map]; omega) (fun _ h => h) fun ds d e hd => ?_).toR.mono ?_) ?_
    · rw [e] at hd
      obtain ⟨m, hm, rfl⟩ := List.mem_map.mp hd
      have wm : WfMd t.n t.ps.length m := h.mw m hm
      refine ⟨_, tg_name, ?_, fun _ => ev_var rfl⟩
      refine (etB (ev_callD (m.rows, p) (ea_consD (ev_ixT rfl (ev_var rfl) ev_int) (ea_consD (ev_ixO rfl hat (ev_neg ev_int)) ea_nil)) ⟨?_, fun r hr => ⟨ne_nil_len (wm.rw r hr), by rw [wm.rw r hr]; omega, wm.br r hr⟩, 12 * _, M0, M1, fun q hq => (hs4 q hq).mono (by decide)⟩)).mono fun b hb => ⟨m, hm, rfl, hb⟩
      show m.rows.length ≤ 1000
      have := wm.rl; omega
    · rintro d ⟨es, rfl, ds, rfl, md⟩
      refine ⟨es, rfl, fun e he => ?_⟩
      obtain ⟨d, hd, ⟨m, hm, e1, e2⟩, e3⟩ := made_mem md e he
      exact ⟨m, hm, by rw [e3, e1], (holds_dec _ _).mp e2.symm⟩
    rintro d ⟨es, rfl, hes⟩
    refine rq_if (etD (ev_eqNil (ev_var rfl) ev_nil.toD)) (fun _ => r_break (fin _ _ rfl ⟨_, _, _, _, pts, rfl, by omega, ro⟩)) (fun z => r_next ?_)
    have z : es.isEmpty = false := z.symm
    have nn : 0 < es.length := by
      cases es with
      | nil => exact absurd z (by decide)
      | cons a b => exact Nat.succ_pos _
    have q6 := mod_lt (x := c) (m := (es.length : Int)) (by omega)
    obtain ⟨x, hx, mx, _⟩ := at_in (xs := es) q6.1 q6.2
    obtain ⟨m, hm, rfl, hrows⟩ := hes x mx
    have wm : WfMd t.n t.ps.length m := h.mw m hm
    refine rq_setD (ev_ixL hx (ev_var rfl) (ev_mod (by omega) (ev_var rfl) (ev_len (ev_var rfl)))) ?_
    refine rq_set (ev_callD (c / 3, t.ps) (ea_consD (ev_div (by decide) (lg_small (by decide)) (ev_var rfl) ev_int) (ea_consD (ev_var rfl) ea_nil)) ⟨by show t.ps.length ≤ 10; omega, h.po, h.pb⟩) ?_
    rintro d ⟨ws, rfl, inb, sw⟩
    have sw2 : ∀ q ∈ ws, Sq (12 * e) (1100 + (7 * k + 1)) q := fun q hq => (sw q hq).scale e e0 e7
    refine r_app (i := 7) (R := fun d => d = dqs (stepQ t.n m p ws)) rfl (by rw [List.length_map]; omega) (ev_callD (t.n, t.ps.length, m, p, ws) (ea_consD (ev_var rfl) (ea_consD (ev_ixO rfl hat (ev_neg ev_int)) (ea_consD (ev_tup (ds := [.int 0, .int 1]) (ea_consD ev_int (ea_consD ev_int ea_nil)) (by show 2 ≤ 100000; decide)) (ea_consD (ev_var rfl) ea_nil)))) ⟨hn, hp, wm, lp, 12 * e, M0, M9, hs4, fun q hq => (sw2 q hq).mono (by omega)⟩) fun d ed => ?_
    subst ed
    refine ⟨_, _, _, _, pts ++ [stepQ t.n m p ws], by rw [List.map_append] <;> rfl, by rw [List.length_append, hl] <;> rfl, ?_⟩
    have dv := wm.dv
    have d7 := wm.d7
    obtain ⟨g, hg⟩ : ∃ g : Nat, m.div = (g : Int) := ⟨_, (Int.toNat_of_nonneg (by omega)).symm⟩
    have g0 : 0 < g := by omega
    have g7 : g < 2 ^ 7 := by rw [hg] at d7; unfold Bd at d7; rw [Int.natAbs_natCast] at d7; exact d7
    have np : PtOk (k + 1) (stepQ t.n m p ws) := by
      refine ⟨e * g, Nat.mul_pos e0 g0, ?_, fun q hq => ?_⟩
      · calc e * g < 2 ^ (7 * k + 1) * 2 ^ 7 := Nat.mul_lt_mul'' e7 g7
          _ = 2 ^ (7 * (k + 1) + 1) := by rw [← Nat.pow_add, show 7 * k + 1 + 7 = 7 * (k + 1) + 1 by omega]
      · unfold stepQ at hq
        obtain ⟨i, hi, rfl⟩ := List.mem_map.mp hq
        have hi := List.mem_range.mp hi
        obtain ⟨r, hr, mr⟩ := get_ex (r := m.nexts) (k := i) (by rw [wm.nl]; exact hi)
        obtain ⟨q, hq', mq⟩ := get_ex (r := m.push) (k := i) (by rw [wm.pl]; exact hi)
        obtain ⟨cc, hc', mc⟩ := get_ex (r := m.add) (k := i) (by rw [wm.al]; exact hi)
        rw [List.getD_eq_getElem?_getD, hr, List.getD_eq_getElem?_getD, hq', List.getD_eq_getElem?_getD, hc', hg]
        have lr := wm.nw r mr
        have lq' := wm.pw q mq
        have s1 : Sq (12 * e) (1003 + (2200 + 1100 * k)) (dotQ r p) := (dotQ_sq M0 r p (wm.bn r mr) hs).mono (by omega)
        have s2 : Sq (12 * e) (1003 + (2200 + 1100 * k)) (dotQ q ws) := (dotQ_sq M0 q ws (wm.bp q mq) sw2).mono (by omega)
        have s3 : Sq (12 * e) (1004 + (2200 + 1100 * k)) ((cc : Int) : Rat) := (((Sq.ofInt (wm.ba cc mc)).scale (12 * e) M0 (c := 4 + (7 * k + 1)) (by rw [Nat.pow_add]; exact Nat.mul_lt_mul'' (by decide) e7)).same (Nat.one_mul _)).mono (by omega)
        have s4 := (((s1.add M0 s2).mono (show _ ≤ 1004 + (2200 + 1100 * k) by omega)).add M0 s3).div g M0 g0
        exact (s4.same (by rw [Nat.mul_assoc])).mono (by omega)
    refine ⟨?_, fun j p' hj => ?_, fun j p' q' h1 h2 => ?_⟩
    · rw [List.getElem?_append_left (by omega)]; exact ro.h0
    · by_cases cj : j < pts.length
      · rw [List.getElem?_append_left cj] at hj
        exact ro.pt j p' hj
      · have ej : j = k + 1 := by
          have := (List.getElem?_eq_some_iff.mp hj).1
          rw [List.length_append, List.length_singleton] at this
          omega
        subst ej
        rw [List.getElem?_append_right (by omega), hl, Nat.sub_self] at hj
        cases hj
        exact ⟨stepQ_len _ _ _ _, np⟩
    · by_cases cj : j + 1 < pts.length
      · rw [List.getElem?_append_left (by omega)] at h1
        rw [List.getElem?_append_left cj] at h2
        exact ro.st j p' q' h1 h2
      · have ej : j = k := by
          have := (List.getElem?_eq_some_iff.mp h2).1
          rw [List.length_append, List.length_singleton] at this
          omega
        subst ej
        rw [List.getElem?_append_right (by omega), hl, Nat.sub_self] at h2
        cases h2
        rw [List.getElem?_append_left (by omega), hp1] at h1
        cases h1
        exact ⟨m, hm, ws, hrows, inb, rfl⟩
  · rintro ρ1 ⟨x8, x9, x10, x11, pts, rfl, hl, ro⟩
    rw [List.length_map] at hl
    exact fin _ _ rfl ⟨_, _, _, _, pts, rfl, by omega, ro⟩

end
end Tx
end
section
set_option Elab.async false
set_option linter.all false
set_option maxRecDepth 100000
set_option maxHeartbeats 4000000
set_option autoImplicit false
set_option exponentiation.threshold 100000
/-! Pl: what is shown holds; what falls comes to the goal. -/
namespace Pl
open Tx hiding zeros
open Li Ra
theorem dot_nil (qs : List Rat) : dotQ [] qs = 0 := by cases qs <;> rfl
theorem dot_nil' (ns : List Int) : dotQ ns [] = 0 := by cases ns <;> rfl
theorem dot_cons (n : Int) (ns : List Int) (q : Rat) (qs : List Rat) : dotQ (n :: ns) (q :: qs) = n * q + dotQ ns qs := rfl
theorem dot_vadd : ∀ (a b : List Int) (y : List Rat), a.length = b.length → dotQ (vadd a b) y = dotQ a y + dotQ b y
  | [], [], y, _ => by
    rw [show vadd [] [] = [] from rfl, dot_nil]; grind
  | x :: a, z :: b, [], _ => by rw [dot_nil', dot_nil', dot_nil']; grind
  | x :: a, z :: b, q :: y, h => by
    rw [show vadd (x :: a) (z :: b) = (x + z) :: vadd a b from rfl, dot_cons, dot_cons, dot_cons, dot_vadd a b y (Nat.succ.inj h), Rat.intCast_add]
    grind
theorem dot_smul (k : Int) : ∀ (a : List Int) (y : List Rat), dotQ (smul k a) y = k * dotQ a y
  | [], y => by rw [show smul k [] = [] from rfl, dot_nil]; grind
  | x :: a, [] => by rw [dot_nil', dot_nil']; grind
  | x :: a, q :: y => by
    rw [show smul k (x :: a) = (k * x) :: smul k a from rfl, dot_cons, dot_cons, dot_smul k a y, Rat.intCast_mul]
    grind
theorem dot_zeros : ∀ (n : Nat) (y : List Rat), dotQ (zeros n) y = 0
  | 0, y => dot_nil y
  | n + 1, [] => dot_nil' _
  | n + 1, q :: y => by
    rw [show zeros (n + 1) = 0 :: zeros n from rfl, dot_cons, dot_zeros n y]
    grind
theorem dot_neg : ∀ (a : List Int) (y : List Rat), dotQ (Li.neg a) y = - dotQ a y
  | [], y => by rw [show Li.neg [] = [] from rfl, dot_nil]; grind
  | x :: a, [] => by rw [dot_nil', dot_nil']; grind
  | x :: a, q :: y => by
    rw [show Li.neg (x :: a) = (0 - x) :: Li.neg a from rfl, dot_cons, dot_cons, dot_neg a y, Rat.intCast_sub]
    grind
theorem dot_app : ∀ (a b : List Int) (x y : List Rat), a.length = x.length → dotQ (a ++ b) (x ++ y) = dotQ a x + dotQ b y
  | [], b, [], y, _ => by rw [List.nil_append, List.nil_append, dot_nil]; grind
  | n :: a, b, q :: x, y, h => by
    rw [List.cons_append, List.cons_append, dot_cons, dot_cons, dot_app a b x y (Nat.succ.inj h)]
    grind
theorem dot_unit : ∀ (i k : Nat) (s : Int) (w : List Rat) (q : Rat), w[i]? = some q → dotQ (zeros i ++ [s] ++ zeros k) w = s * q
  | 0, k, s, x :: w, q, h => by
    have h : x = q := Option.some.inj h
    subst h
    show s * x + dotQ (zeros k) w = s * x
    rw [dot_zeros]; grind
  | i + 1, k, s, x :: w, q, h => by
    rw [show zeros (i + 1) ++ [s] ++ zeros k = 0 :: (zeros i ++ [s] ++ zeros k) from rfl, dot_cons, dot_unit i k s w q h]
    grind
/-- the row at the point, told by one sum -/
theorem hold_iff {r : List Int} {z : List Rat} (h : r.length = z.length + 1) : holdQ r z ↔ dotQ r (z ++ [-1]) ≤ 0 := by
  obtain ⟨a, b, rfl⟩ : ∃ a b, r = a ++ [b] := ⟨_, _, (List.dropLast_concat_getLast (ne_nil_len h)).symm⟩
  have la : a.length = z.length := by rw [List.length_append, List.length_singleton] at h; omega
  unfold holdQ
  rw [List.dropLast_concat, List.getLastD_concat, dot_app a [b] z [-1] la, dot_cons, dot_nil]
  grind
theorem mul_nonpos {a b : Rat} (h1 : 0 ≤ a) (h2 : b ≤ 0) : a * b ≤ 0 := by
  have := Rat.mul_le_mul_of_nonneg_left h2 h1
  grind
theorem fold_le {n : Nat} {y : List Rat} : ∀ (ps : List (Int × List Int)) (a : List Int), a.length = n → dotQ a y ≤ 0 → (∀ p ∈ ps, 0 ≤ p.1 ∧ p.2.length = n ∧ dotQ p.2 y ≤ 0) → dotQ (ps.foldl (fun a p => vadd a (smul p.1 p.2)) a) y ≤ 0
  | [], _, _, h, _ => h
  | p :: ps, a, la, h, hp => by
    obtain ⟨h1, h2, h3⟩ := hp p List.mem_cons_self
    have ls : (smul p.1 p.2).length = n := by rw [smul_len, h2]
    refine fold_le ps _ (vadd_len la ls) ?_ fun q hq => hp q (List.mem_cons_of_mem _ hq)
    rw [dot_vadd _ _ _ (by rw [la, ls]), dot_smul]
    have : (0 : Rat) ≤ (p.1 : Rat) := by
      have := cast_le h1
      exact_mod_cast this
    have := mul_nonpos this h3
    grind
/-- what is shown holds -/
theorem shown_hold {rs : List (List Int)} {t : List Int} {z : List Rat} (hs : Shows rs t) (hr : ∀ r ∈ rs, r.length = z.length + 1) (ht : t.length = z.length + 1) (h : ∀ r ∈ rs, holdQ r z) : holdQ t z := by
  obtain ⟨o, ns, s⟩ := hs
  have fl : (lin ns rs t.length).length = z.length + 1 := by
    rw [lin_len (n := t.length) fun r hr' => by rw [hr r hr', ht]]; exact ht
  have le : dotQ (lin ns rs t.length) (z ++ [-1]) ≤ 0 := by
    refine fold_le (n := t.length) _ _ List.length_replicate (by rw [dot_zeros]; exact Rat.le_refl) fun p hp => ?_
    obtain ⟨m1, m2⟩ := List.of_mem_zip hp
    exact ⟨s.n0 _ m1, by rw [hr _ m2, ht], (hold_iff (hr _ m2)).mp (h _ m2)⟩
  have f := (hold_iff fl).mpr le
  unfold holdQ at f ⊢
  rw [s.nums, dot_smul] at f
  by_cases c : o = 0
  · have := s.shut c
    rw [c] at f
    have f2 : ((0 : Int) : Rat) ≤ (((lin ns rs t.length).getLastD 0 : Int) : Rat) := by grind
    have := Rat.intCast_le_intCast.mp f2
    omega
  · have b := cast_le (s.bound c)
    rw [Rat.intCast_mul] at b
    have op : (0 : Rat) < (o : Rat) := by
      have : (0 : Int) < o := by have := s.o0; omega
      exact_mod_cast Rat.intCast_lt_intCast.mpr this
    exact Rat.le_of_mul_le_mul_left (Rat.le_trans f b) op
/-! rows that stand -/
theorem stand_hold {n : Nat} {ps : List (Int × Int)} {rs : List (List Int)} {x w : List Rat} (hx : x.length = n) (hw : InBox ps w) (hr : ∀ r ∈ rs, r.length = n + 1) (h : ∀ r ∈ rs, holdQ r x) : ∀ r ∈ stand n ps rs, holdQ r (x ++ w) := fun r hr' => by
  rcases List.mem_append.mp hr' with hm | hm
  · obtain ⟨q, hq, rfl⟩ := List.mem_map.mp hm
    have := h q hq
    unfold holdQ at this ⊢
    unfold widen
    rw [List.dropLast_concat, List.getLastD_concat, dot_app _ _ _ _ (by rw [List.length_dropLast, hr q hq, hx]; rfl), dot_zeros]
    grind
  · obtain ⟨i, b, hb, e⟩ := mem_pRows hm
    have il := (List.getElem?_eq_some_iff.mp hb).1
    obtain ⟨q, hq, _⟩ := get_ex (r := w) (k := i) (by rw [hw.1]; exact il)
    obtain ⟨b1, b2⟩ := hw.2 i b q hb hq
    have d : ∀ s c : Int, dotQ (pRow n ps.length i s c).dropLast (x ++ w) = s * q := fun s c => by
      unfold pRow
      rw [List.dropLast_concat, List.append_assoc, List.append_assoc, ← List.append_assoc (zeros i), dot_app _ _ _ _ (by rw [List.length_replicate, hx]), dot_zeros, dot_unit _ _ _ _ _ hq]
      grind
    have l : ∀ s c : Int, (pRow n ps.length i s c).getLastD 0 = c := fun s c => by unfold pRow; rw [List.getLastD_concat]
    unfold holdQ
    rcases e with rfl | rfl
    · rw [d, l]; grind
    · rw [d, l, Rat.intCast_sub]; grind
/-! a step -/
theorem dot_map_lin {n : Nat} {x : List Rat} : ∀ (ns : List Int) (rs : List (List Int)) (a : List Int), a.length = n → (∀ r ∈ rs, r.length = n) → dotQ ((ns.zip rs).foldl (fun a p => vadd a (smul p.1 p.2)) a) x = dotQ a x + dotQ ns (rs.map fun r => dotQ r x)
  | [], rs, a, _, _ => by
    rw [List.zip_nil_left, List.foldl_nil, dot_nil]; grind
  | n :: ns, [], a, _, _ => by
    rw [List.zip_nil_right, List.foldl_nil, List.map_nil, dot_nil']; grind
  | k :: ns, r :: rs, a, la, hr => by
    have lr := hr r List.mem_cons_self
    have ls : (smul k r).length = n := by rw [smul_len, lr]
    rw [List.zip_cons_cons, List.foldl_cons, dot_map_lin ns rs _ (vadd_len la ls) (fun q hq => hr q (List.mem_cons_of_mem _ hq)), dot_vadd _ _ _ (by rw [la, ls]), dot_smul, List.map_cons, dot_cons]
    grind
theorem dot_lin {n : Nat} {x : List Rat} {ns : List Int} {rs : List (List Int)} (hr : ∀ r ∈ rs, r.length = n) : dotQ (lin ns rs n) x = dotQ ns (rs.map fun r => dotQ r x) := by
  unfold lin
  rw [dot_map_lin ns rs _ List.length_replicate hr, dot_zeros]; grind
theorem dot_I : ∀ (ns a : List Int), dotQ ns (a.map fun i : Int => (i : Rat)) = ((dotI ns a : Int) : Rat)
  | [], a => by rw [dot_nil]; rfl
  | n :: ns, [] => by rw [List.map_nil, dot_nil']; rfl
  | n :: ns, x :: a => by
    rw [List.map_cons, dot_cons, dot_I ns a, show dotI (n :: ns) (x :: a) = n * x + dotI ns a from by unfold dotI; rw [List.zipWith_cons_cons, List.sum_cons], Rat.intCast_add, Rat.intCast_mul]
theorem dot_three {d : Rat} : ∀ (ns : List Int) (S A B C : List Rat), A.length = S.length → B.length = S.length → C.length = S.length → (∀ i, i < S.length → d * S.getD i 0 = A.getD i 0 + B.getD i 0 + C.getD i 0) → d * dotQ ns S = dotQ ns A + dotQ ns B + dotQ ns C
  | [], S, A, B, C, _, _, _, _ => by rw [dot_nil, dot_nil, dot_nil, dot_nil]; grind
  | n :: ns, [], [], [], [], _, _, _, _ => by rw [dot_nil']; grind
  | n :: ns, s :: S, a :: A, b :: B, c :: C, h1, h2, h3, h => by
    have h0 := h 0 (Nat.succ_pos _)
    have ih := dot_three (d := d) ns S A B C (Nat.succ.inj h1) (Nat.succ.inj h2) (Nat.succ.inj h3) fun i hi => h (i + 1) (Nat.succ_lt_succ hi)
    have h0 : d * s = a + b + c := h0
    rw [dot_cons, dot_cons, dot_cons, dot_cons]
    grind
theorem div_pos' {n p : Nat} {m : Md} (hm : WfMd n p m) : (0 : Rat) < (m.div : Rat) := by
  have : (0 : Int) < m.div := by have := hm.dv; omega
  exact_mod_cast Rat.intCast_lt_intCast.mpr this
/-- the numbers of a row at the point behind -/
theorem step_dot {n p : Nat} {m : Md} (hm : WfMd n p m) (x w : List Rat) (ns : List Int) : (m.div : Rat) * dotQ ns (stepQ n m x w) = dotQ (lin ns m.nexts n) x + dotQ (lin ns m.push p) w + (dotI ns m.add : Int) := by
  rw [dot_lin hm.nw, dot_lin hm.pw, ← dot_I]
  have dp := div_pos' hm
  refine dot_three ns _ _ _ _ (by rw [List.length_map, stepQ_len, hm.nl]) (by rw [List.length_map, stepQ_len, hm.pl]) (by rw [List.length_map, stepQ_len, hm.al]) fun i hi => ?_
  rw [stepQ_len] at hi
  obtain ⟨r, hr, _⟩ := get_ex (r := m.nexts) (k := i) (by rw [hm.nl]; exact hi)
  obtain ⟨q, hq, _⟩ := get_ex (r := m.push) (k := i) (by rw [hm.pl]; exact hi)
  obtain ⟨c, hc, _⟩ := get_ex (r := m.add) (k := i) (by rw [hm.al]; exact hi)
  have e1 : (stepQ n m x w).getD i 0 = (dotQ r x + dotQ q w + (c : Int)) / (m.div : Rat) := by
    unfold stepQ
    rw [List.getD_eq_getElem?_getD, List.getElem?_map, List.getElem?_range hi]
    show (dotQ (m.nexts.getD i []) x + dotQ (m.push.getD i []) w + ((m.add.getD i 0 : Int) : Rat)) / (m.div : Rat) = _
    rw [List.getD_eq_getElem?_getD, hr, List.getD_eq_getElem?_getD, hq, List.getD_eq_getElem?_getD, hc] <;> rfl
  rw [e1, List.getD_eq_getElem?_getD, List.getElem?_map, hr, List.getD_eq_getElem?_getD, List.getElem?_map, hq, List.getD_eq_getElem?_getD, List.getElem?_map, hc]
  show (m.div : Rat) * _ = dotQ r x + dotQ q w + (c : Rat)
  have hd : (m.div : Rat) ≠ 0 := fun e => by rw [e] at dp; exact absurd dp (Rat.lt_irrefl)
  grind
theorem reach_hold {n p : Nat} {m : Md} (hm : WfMd n p m) {x w : List Rat} {r : List Int} (hx : x.length = n) (hr : r.length = n + 1) (h : holdQ (Li.reach n p m.nexts m.push m.add m.div r) (x ++ w)) : holdQ r (stepQ n m x w) := by
  have dp := div_pos' hm
  have tk : r.take n = r.dropLast := by rw [List.dropLast_eq_take, hr]; rfl
  unfold holdQ at h ⊢
  unfold Li.reach at h
  rw [List.dropLast_concat, List.getLastD_concat, dot_app _ _ _ _ (by rw [lin_len hm.nw, hx]), tk, Rat.intCast_sub, Rat.intCast_mul] at h
  have s := step_dot hm x w r.dropLast
  refine Rat.le_of_mul_le_mul_left (c := (m.div : Rat)) ?_ dp
  grind
theorem dot_fallrow (d : Int) : ∀ (a b : List Int) (x : List Rat), a.length = b.length → dotQ (List.zipWith (fun a b => a - d * b) a b) x = dotQ a x - d * dotQ b x
  | [], [], x, _ => by rw [List.zipWith_nil_left, dot_nil]; grind
  | n :: a, k :: b, [], _ => by rw [dot_nil', dot_nil', dot_nil']; grind
  | n :: a, k :: b, q :: x, h => by
    rw [List.zipWith_cons_cons, dot_cons, dot_cons, dot_cons, dot_fallrow d a b x (Nat.succ.inj h), Rat.intCast_sub, Rat.intCast_mul]
    grind
theorem fall_hold {n p : Nat} {m : Md} (hm : WfMd n p m) {x w : List Rat} {v : List Int} {s : Int} (hx : x.length = n) (hv : v.length = n + 1) (h : holdQ (Li.fall n p m.nexts m.push m.add m.div v s) (x ++ w)) : dotQ v.dropLast (stepQ n m x w) ≤ dotQ v.dropLast x - s := by
  have dp := div_pos' hm
  have tk : v.take n = v.dropLast := by rw [List.dropLast_eq_take, hv]; rfl
  have ld : v.dropLast.length = n := by rw [List.length_dropLast, hv]; rfl
  have l1 : (lin v.dropLast m.nexts n).length = n := lin_len hm.nw
  have R : Li.reach n p m.nexts m.push m.add m.div (v.dropLast ++ [0]) = lin v.dropLast m.nexts n ++ (lin v.dropLast m.push p ++ [0 - dotI v.dropLast m.add]) := by
    unfold Li.reach
    rw [List.dropLast_concat, List.getLastD_concat, List.append_assoc, List.take_append_of_le_length (by rw [ld]; exact Nat.le_refl _), List.take_of_length_le (by rw [ld]; exact Nat.le_refl _), Int.mul_zero]
  have e : Li.fall n p m.nexts m.push m.add m.div v s = List.zipWith (fun a b => a - m.div * b) (lin v.dropLast m.nexts n) v.dropLast ++ lin v.dropLast m.push p ++ [0 - dotI v.dropLast m.add - m.div * s] := by
    unfold Li.fall
    rw [R]
    simp only []
    rw [List.take_left' l1, List.drop_left' l1, tk, List.dropLast_concat, ← List.append_assoc (lin v.dropLast m.nexts n), List.getLastD_concat, List.append_assoc]
  unfold holdQ at h
  rw [e, List.dropLast_concat, List.getLastD_concat, dot_app _ _ _ _ (by rw [List.length_zipWith, l1, ld, hx, Nat.min_self]), dot_fallrow _ _ _ _ (by rw [l1, ld]), Rat.intCast_sub, Rat.intCast_sub, Rat.intCast_mul] at h
  have st := step_dot hm x w v.dropLast
  refine Rat.le_of_mul_le_mul_left (c := (m.div : Rat)) ?_ dp
  grind
theorem neg_hold {g : List Int} {x : List Rat} (hg : g.length = x.length + 1) (h : ¬ holdQ g x) : holdQ (Li.neg g) x := by
  obtain ⟨a, b, rfl⟩ : ∃ a b, g = a ++ [b] := ⟨_, _, (List.dropLast_concat_getLast (ne_nil_len hg)).symm⟩
  have e : Li.neg (a ++ [b]) = Li.neg a ++ [0 - b] := by unfold Li.neg; rw [List.map_append] <;> rfl
  unfold holdQ at h ⊢
  rw [e, List.dropLast_concat, List.getLastD_concat, dot_neg, Rat.intCast_sub]
  rw [List.dropLast_concat, List.getLastD_concat] at h
  have := Rat.not_le.mp h
  grind
/-! the box -/
theorem unitR_eq {n i : Nat} (h : i < n) : unitR n i = zeros i ++ [1] ++ zeros (n - (i + 1)) := by
  apply List.ext_getElem?
  intro j
  unfold unitR
  rw [List.getElem?_map]
  by_cases hj : j < n
  · rw [List.getElem?_range hj, Option.map_some]
    rcases Nat.lt_trichotomy j i with c | c | c
    · rw [if_neg (by omega), List.append_assoc, List.getElem?_append_left (by rw [List.length_replicate]; exact c), List.getElem?_replicate, if_pos c]
    · subst c
      rw [if_pos rfl, List.append_assoc, List.getElem?_append_right (by rw [List.length_replicate]; exact Nat.le_refl _), List.length_replicate, Nat.sub_self] <;> rfl
    · have ll : (zeros i ++ [(1 : Int)]).length = i + 1 := by rw [List.length_append, List.length_replicate] <;> rfl
      rw [if_neg (by omega), List.getElem?_append_right (by rw [ll]; omega), ll, List.getElem?_replicate, if_pos (by omega)]
  · rw [List.getElem?_eq_none (by rw [List.length_range]; omega), List.getElem?_eq_none (by simp; omega)] <;> rfl
theorem box_hold {bs : List (Int × Int)} {x : List Rat} (hx : InBox bs x) : ∀ r ∈ boxRows bs, holdQ r x := fun r hr => by
  obtain ⟨i, hi, hm⟩ := List.mem_flatMap.mp hr
  have hi := List.mem_range.mp hi
  obtain ⟨b, hb, _⟩ := get_ex (r := bs) (k := i) hi
  obtain ⟨q, hq, _⟩ := get_ex (r := x) (k := i) (by rw [hx.1]; exact hi)
  obtain ⟨b1, b2⟩ := hx.2 i b q hb hq
  have eg : bs.getD i (0, 0) = b := by rw [List.getD_eq_getElem?_getD, hb] <;> rfl
  unfold boxRow at hm
  rw [eg] at hm
  unfold holdQ
  rcases List.mem_cons.mp hm with rfl | hm
  · rw [List.dropLast_concat, List.getLastD_concat, unitR_eq hi, dot_unit _ _ _ _ _ hq]; grind
  · rw [List.mem_singleton.mp hm, List.dropLast_concat, List.getLastD_concat, dot_neg, unitR_eq hi, dot_unit _ _ _ _ _ hq, Rat.intCast_sub]; grind
theorem boxRows_w {bs : List (Int × Int)} : ∀ r ∈ boxRows bs, r.length = bs.length + 1 := fun r hr => by
  obtain ⟨i, hi, hm⟩ := List.mem_flatMap.mp hr
  have lu : (unitR bs.length i).length = bs.length := by unfold unitR; rw [List.length_map, List.length_range]
  unfold boxRow at hm
  rcases List.mem_cons.mp hm with rfl | hm
  · rw [List.length_append, lu] <;> rfl
  · rw [List.mem_singleton.mp hm, List.length_append, neg_len, lu] <;> rfl
end Pl
end
section
set_option Elab.async false
set_option linter.all false
set_option maxRecDepth 100000
set_option maxHeartbeats 4000000
set_option autoImplicit false
set_option exponentiation.threshold 100000
/-! Pm: a run that a paper of falls is for comes to the goal. -/
namespace Pl
open Tx hiding zeros
open Li Ra
/-- one step of a run keeps the room; outside the goal it falls -/
theorem step_room {t : Th} {F : Fl} {c : Co} (h : WfTh t) (hF : WfFl t.n F) (s : ForS F t c) {p q : List Rat} (lp : p.length = t.n) (st : StepOk t p q) (hr : ∀ r ∈ F.room, holdQ r p) : ∀ r ∈ F.room, holdQ r q := fun r hr' => by
  obtain ⟨m, hm, ws, rows, inb, rfl⟩ := st
  have wm := h.mw m hm
  have lpw : (p ++ ws).length = t.n + t.ps.length := by rw [List.length_append, lp, inb.1]
  have wl : ∀ r ∈ F.room ++ m.rows, r.length = t.n + 1 := fun r hr => (List.mem_append.mp hr).elim (hF.rw r) (wm.rw r)
  have hl : ∀ r ∈ F.room ++ m.rows, holdQ r p := fun r h => (List.mem_append.mp h).elim (hr r) (rows r)
  have sh := shown_hold (z := p ++ ws) (s.steps m hm r hr') (fun r hr => by rw [stand_w wl r hr, lpw]) (by rw [reach_len wm, lpw]) (stand_hold lp inb wl hl)
  exact reach_hold wm lp (hF.rw r hr') sh
theorem step_fall {t : Th} {F : Fl} {c : Co} (h : WfTh t) (hF : WfFl t.n F) (hc : WfCo t.n c) (s : ForS F t c) {p q : List Rat} (lp : p.length = t.n) (st : StepOk t p q) (hr : ∀ r ∈ F.room, holdQ r p) (out : ∃ g ∈ c.goal, ¬ holdQ g p) : dotQ F.measure.dropLast q ≤ dotQ F.measure.dropLast p - F.step := by
  obtain ⟨m, hm, ws, rows, inb, rfl⟩ := st
  obtain ⟨g, hg, ng⟩ := out
  have wm := h.mw m hm
  have lg := hc.gw g hg
  have lpw : (p ++ ws).length = t.n + t.ps.length := by rw [List.length_append, lp, inb.1]
  have wl : ∀ r ∈ F.room ++ m.rows ++ [Li.neg g], r.length = t.n + 1 := fun r hr => by
    rcases List.mem_append.mp hr with hr | hr
    · exact (List.mem_append.mp hr).elim (hF.rw r) (wm.rw r)
    · rw [List.mem_singleton.mp hr, neg_len, lg]
  have hl : ∀ r ∈ F.room ++ m.rows ++ [Li.neg g], holdQ r p := fun r h => by
    rcases List.mem_append.mp h with h | h
    · exact (List.mem_append.mp h).elim (hr r) (rows r)
    · rw [List.mem_singleton.mp h]
      exact neg_hold (by rw [lg, lp]) ng
  have sh := shown_hold (z := p ++ ws) (s.by_ m hm g hg) (fun r hr => by rw [stand_w wl r hr, lpw]) (by rw [fall_len wm hF.ml, lpw]) (stand_hold lp inb wl hl)
  exact fall_hold wm lp hF.ml sh
theorem main {t : Th} {F : Fl} {c : Co} {bs : List (Int × Int)} {qs : List Rat} {pts : List (List Rat)} (h : WfTh t) (hF : WfFl t.n F) (hc : WfCo t.n c) (s : ForS F t c) (hb : bs.length = t.n) (hst : c.start = boxRows bs) (inb : InBox bs qs) (ro : RunOk t qs pts) (u0 : 0 ≤ c.turns) (hl : c.turns < pts.length) :
    ∃ (k : Nat) (p : List Rat), (k : Int) ≤ c.turns ∧ pts[k]? = some p ∧ ∀ r ∈ c.goal, holdQ r p := by
  refine Classical.byContradiction fun no => ?_
  have out : ∀ (k : Nat) (p : List Rat), (k : Int) ≤ c.turns → pts[k]? = some p → ∃ g ∈ c.goal, ¬ holdQ g p := fun k p h1 h2 => Classical.byContradiction fun e => no ⟨k, p, h1, h2, fun r hr => Classical.byContradiction fun e2 => e ⟨r, hr, e2⟩⟩
  have lq : qs.length = t.n := by rw [inb.1, hb]
  have bh := box_hold inb
  have hs : ∀ r ∈ c.start, holdQ r qs := by rw [hst]; exact bh
  have sw : ∀ r ∈ c.start, r.length = qs.length + 1 := fun r hr => by rw [hc.sw r hr, lq]
  have ml := hF.ml
  have ld : F.measure.dropLast.length = t.n := by rw [List.length_dropLast, ml]; rfl
  -- the room, at every point
  have rm : ∀ (k : Nat) (p : List Rat), pts[k]? = some p → ∀ r ∈ F.room, holdQ r p := by
    intro k
    induction k with
    | zero =>
      intro p hp r hr
      rw [ro.h0] at hp
      cases hp
      exact shown_hold (s.starts r hr) sw (by rw [hF.rw r hr, lq]) hs
    | succ k ih =>
      intro q hq
      have lk := (List.getElem?_eq_some_iff.mp hq).1
      obtain ⟨p, hp, _⟩ := get_ex (r := pts) (k := k) (by omega)
      exact step_room h hF s (ro.pt k p hp).1 (ro.st k p q hp hq) (ih p hp)
  -- the height, at every point
  have ht : ∀ (k : Nat) (p : List Rat), (k : Int) ≤ c.turns → pts[k]? = some p → dotQ F.measure.dropLast p + F.measure.getLastD 0 ≤ F.top - k * F.step := by
    intro k
    induction k with
    | zero =>
      intro p _ hp
      rw [ro.h0] at hp
      cases hp
      have sh := shown_hold s.high.top sw (by rw [List.length_append, ld, lq]; rfl) hs
      unfold holdQ at sh
      rw [List.dropLast_concat, List.getLastD_concat, Rat.intCast_sub] at sh
      grind
    | succ k ih =>
      intro q hk hq
      have lk := (List.getElem?_eq_some_iff.mp hq).1
      obtain ⟨p, hp, _⟩ := get_ex (r := pts) (k := k) (by omega)
      have h1 := ih p (by omega) hp
      have h2 := step_fall h hF hc s (ro.pt k p hp).1 (ro.st k p q hp hq) (rm k p hp) (out k p (by omega) hp)
      have e : ((k + 1 : Nat) : Rat) = (k : Rat) + 1 := by push_cast; rfl
      rw [e]
      grind
  obtain ⟨T, hT⟩ : ∃ T : Nat, c.turns = (T : Int) := ⟨_, (Int.toNat_of_nonneg u0).symm⟩
  obtain ⟨p, hp, _⟩ := get_ex (r := pts) (k := T) (by omega)
  have h1 := ht T p (by omega) hp
  obtain ⟨g, hg, ng⟩ := out T p (by omega) hp
  have lp := (ro.pt T p hp).1
  have lg := hc.gw g hg
  have fl := shown_hold (z := p) (s.high.floor g hg) (fun r hr => by
    rcases List.mem_append.mp hr with hr | hr
    · rw [hF.rw r hr, lp]
    · rw [List.mem_singleton.mp hr, neg_len, lg, lp]) (by rw [List.length_append, neg_len, ld, lp]; rfl) (fun r hr => by
    rcases List.mem_append.mp hr with hr | hr
    · exact rm T p hp r hr
    · rw [List.mem_singleton.mp hr]; exact neg_hold (by rw [lg, lp]) ng)
  unfold holdQ at fl
  rw [List.dropLast_concat, List.getLastD_concat, dot_neg] at fl
  have tt : ((F.top : Int) : Rat) < ((c.turns * F.step : Int) : Rat) := Rat.intCast_lt_intCast.mpr s.tt
  rw [hT, Rat.intCast_mul, Rat.intCast_natCast] at tt
  grind
end Pl
end
section
set_option Elab.async false
set_option linter.all false
set_option maxRecDepth 100000
set_option maxHeartbeats 4000000
set_option autoImplicit false
set_option exponentiation.threshold 100000
/-! W11: the parts of a paper; the law. -/
namespace Tx
open PySem L2 Kr Kt Li Ra
theorem boxRows_b {B : Nat} {bs : List (Int × Int)} (hB : 7 ≤ B) (h : ∀ b ∈ bs, Bd B b.1 ∧ Bd B b.2) : ∀ r ∈ boxRows bs, ∀ x ∈ r, Bd (B + 1) x := fun r hr x hx => by
  obtain ⟨i, hi, hm⟩ := List.mem_flatMap.mp hr
  have hi := List.mem_range.mp hi
  obtain ⟨b, hb, mb⟩ := get_ex (r := bs) (k := i) hi
  have eg : bs.getD i (0, 0) = b := by rw [List.getD_eq_getElem?_getD, hb] <;> rfl
  have ub : ∀ x ∈ unitR bs.length i, Bd B x := fun x hx => by
    obtain ⟨j, hj, rfl⟩ := List.mem_map.mp hx
    exact small_b (by split <;> decide) hB
  unfold boxRow at hm
  rw [eg] at hm
  rcases List.mem_cons.mp hm with rfl | hm
  · rcases List.mem_append.mp hx with hx | hx
    · exact (ub x hx).mono (Nat.le_succ _)
    · rw [List.mem_singleton.mp hx]; exact (h b mb).2.mono (Nat.le_succ _)
  · rw [List.mem_singleton.mp hm] at hx
    rcases List.mem_append.mp hx with hx | hx
    · exact neg_b ub x hx
    · rw [List.mem_singleton.mp hx]; exact Bd.sub Bd.zero (h b mb).1
section
variable {K : PySem.W.Frag} {ρ : Rho} {te : TE}
/-- any([..]): one that must be true makes it true -/
theorem all2_any {Pd : D → Prop} : ∀ {ds es : List D}, All2 (fun d e => ∃ b, e = .bl b ∧ (Pd d → b = true)) ds es → ∃ bs : List Bool, es = bs.map D.bl ∧ ((∃ d ∈ ds, Pd d) → bs.any id = true)
  | _, _, .nil => ⟨[], rfl, fun ⟨d, h, _⟩ => nomatch h⟩
  | _, _, .cons a c => by
    obtain ⟨bs, e, h⟩ := all2_any c
    obtain ⟨b, e1, h1⟩ := a
    refine ⟨b :: bs, by rw [e1, e] <;> rfl, fun ⟨d, hd, p⟩ => ?_⟩
    rw [List.any_cons, Bool.or_eq_true]
    rcases List.mem_cons.mp hd with rfl | hd
    · exact .inl (h1 p)
    · exact .inr (h ⟨d, hd, p⟩)
theorem ev_anyT {Pd : D → Prop} {wi : TI} {g : TG} {vs js : List Nat} {ds : List D} (hi : EvI K wi ρ (fun x => x = ds)) (hz : ds.length ≤ 50000) (hj : ∀ j ∈ js, j ∈ vs)
    (hb : ∀ d, d ∈ ds → ∃ ρ1, Tgt K g js d (wipeR ρ vs) ρ1 ∧ EvR K te ρ1 (fun e => ∃ b, e = .bl b ∧ (Pd d → b = true))) (h : ∃ d ∈ ds, Pd d) : EvD K (tCB (rAny K) (tCons (tLc wi g tYes te vs) tNil)) ρ (.bl true) := by
  have h' := (ev_lc (F := fun d e => ∃ b, e = .bl b ∧ (Pd d → b = true)) hi (fun x e => by rw [e]; exact hz) hj fun x d e hd => hb d (by rw [← e]; exact hd)).toR
  refine (ev_anyR (P := fun bs => bs.any id = true) (h'.mono fun d ⟨xs, e1, ys, e2, a⟩ => ?_)).mono fun d ⟨b, e1, ns, e2, e3⟩ => by rw [e1, e2, e3]
  subst e2
  obtain ⟨bs, e, k⟩ := all2_any a
  exact ⟨bs, by rw [e1, e], k h⟩
end
section
variable {P : Program} {w : World} {K : PySem.W.Frag} {mg : Str → Option Value} {base : Heap} {f : Addr} {fd : FuncData}
theorem ok__law_fall_parts (T : Txt K mg) (F : FunD K "_law_fall_parts" "_law_fall_parts" (defArgs s_law_fall_parts) (defBody s_law_fall_parts) (defScope s_law_fall_parts) [] [] f fd) (k__law_both : Cal P w K mg base "_law_both" 1 ["_law_numbers"] (sp__law_both K)) (k__law_pushed : Cal P w K mg base "_law_pushed" 2 ["_law_spec", "_law_mode", "_law_numbers"] (sp__law_pushed K)) : FnOk P w K mg base CX0 3 f fd ["_law_spec", "_law_goal", "_law_often", "_law_step", "_law_told"] (sp__law_fall_parts K) := by
  refine fn_ok F sc__law_fall_parts (fun _ => rfl) (fun cdv A' outer s H E hr => ⟨_, (pss_cons (ps_asg (pv 4) (tup_K (K := K) (n := 6) rfl rfl (pgs_cons (pg_name (i := 5) sc__law_fall_parts.nd rfl (Or.inl rfl)) (pgs_cons (pg_name (i := 6) sc__law_fall_parts.nd rfl (Or.inl rfl)) (pgs_cons (pg_name (i := 7) sc__law_fall_parts.nd rfl (Or.inl rfl)) (pgs_cons (pg_name (i := 8) sc__law_fall_parts.nd rfl (Or.inl rfl)) (pgs_cons (pg_name (i := 9) sc__law_fall_parts.nd rfl (Or.inl rfl)) (pgs_cons (pg_name (i := 10) sc__law_fall_parts.nd rfl (Or.inl rfl)) pgs_nil))))))))
      (pss_cons (ps_setLc (i := 11) rfl sc__law_fall_parts.nd rfl rfl (sw_true rfl rfl rfl (by decide +kernel)) (own := [("_law_row", 20)]) (seq_K (K := K) rfl (pv 6)) (blkOk_by (by kernel_rfl)) (fun _ _ _ _ _ => (pg_name (i := 20) sc__law_fall_parts.nd rfl (Or.inl rfl))) (fun _ _ _ _ _ => pts_nil) (fun _ _ _ _ _ => (pe_tup (pa_cons pe_int (pa_cons (pe_cal k__law_both (hr.mono (by decide)) rfl (pa_cons (pe_slice (sl_K (K := K) rfl) (pv 20) po_none (po_some (pe_un un_neg pe_int))) pa_nil)) pa_nil)))))
      (pss_cons (ps_set (i := 12) sc__law_fall_parts.nd rfl (Or.inl rfl) (pe_lst pa_nil))
      (pss_cons (ps_set (i := 13) sc__law_fall_parts.nd rfl (Or.inl rfl) (pe_lst pa_nil))
      (pss_cons (ps_for PassesOwn.never rfl (seq_K (K := K) rfl (pe_ix (ix_K (K := K) rfl) (pv 0) pe_int (fun _ _ => rfl))) (pg_name (i := 14) sc__law_fall_parts.nd rfl (Or.inr rfl)) (pss_cons (ps_set (i := 18) sc__law_fall_parts.nd rfl (Or.inr rfl) (pe_op (mul_K (K := K) rfl) (pe_lst (pa_cons pe_int pa_nil)) (pe_callB (len_K (K := K) rfl) rfl T.m_len bt_len (pa_cons (pe_ix (ix_K (K := K) rfl) (pv 14) pe_int (fun _ _ => rfl)) pa_nil))))
      (pss_cons (ps_expr (pe_bm PySem.F.plainAttrs_list PySem.F.slot_list_append PySem.F.type_list_append mt_append (pv 12) (pa_cons (pe_lc (own := [("_law_row", 20)]) rfl sc__law_fall_parts.nd (seq_K (K := K) rfl (pv 6)) (blkOk_by (by kernel_rfl)) (fun _ _ _ _ _ => (pg_name (i := 20) sc__law_fall_parts.nd rfl (Or.inl rfl))) (fun _ _ _ _ _ => pts_nil) (fun _ _ _ _ _ => (pe_tup (pa_cons pe_int (pa_cons (pe_op (add_K (K := K) rfl) (pe_op (add_K (K := K) rfl) (pe_lst (pa_cons (pe_ix (ix_K (K := K) rfl) (pv 14) pe_int (fun _ _ => rfl)) pa_nil)) (pv 18)) (pe_cal k__law_pushed (hr.mono (by decide)) rfl (pa_cons (pv 0) (pa_cons (pv 14) (pa_cons (pv 1) pa_nil))))) pa_nil))))) pa_nil)))
      (pss_cons (ps_set (i := 19) sc__law_fall_parts.nd rfl (Or.inl rfl) (pe_lst (pa_cons (pe_tup (pa_cons pe_int (pa_cons (pe_op (add_K (K := K) rfl) (pe_op (add_K (K := K) rfl) (pe_op (add_K (K := K) rfl) (pe_op (mul_K (K := K) rfl) (pe_lst (pa_cons pe_int pa_nil)) (pe_callB (len_K (K := K) rfl) rfl T.m_len bt_len (pa_cons (pv 6) pa_nil))) (pv 18)) (pe_lst (pa_cons pe_int pa_nil))) (pe_cal k__law_pushed (hr.mono (by decide)) rfl (pa_cons (pv 0) (pa_cons (pv 14) (pa_cons (pe_slice (sl_K (K := K) rfl) (pv 8) po_none (po_some (pe_un un_neg pe_int))) pa_nil))))) pa_nil))) pa_nil)))
      (pss_cons (ps_if (pt_cmpR op_gt (pe_callB (len_K (K := K) rfl) rfl T.m_len bt_len (pa_cons (pv 7) pa_nil)) pe_int (nomark _)) (pss_one (ps_expr (pe_bm PySem.F.plainAttrs_list PySem.F.slot_list_append PySem.F.type_list_append mt_append (pv 19) (pa_cons (pe_tup (pa_cons pe_int (pa_cons (pe_op (add_K (K := K) rfl) (pe_op (add_K (K := K) rfl) (pe_op (add_K (K := K) rfl) (pe_lst (pa_cons pe_int pa_nil)) (pv 18)) (pe_lst (pa_cons pe_int pa_nil))) (pe_op (mul_K (K := K) rfl) (pe_lst (pa_cons pe_int pa_nil)) (pe_op (mul_K (K := K) rfl) pe_int (pe_callB (len_K (K := K) rfl) rfl T.m_len bt_len (pa_cons (pe_ix (ix_K (K := K) rfl) (pv 0) pe_int (fun _ _ => rfl)) pa_nil))))) pa_nil))) pa_nil)))) pss_nil)
      (pss_one (ps_expr (pe_bm PySem.F.plainAttrs_list PySem.F.slot_list_append PySem.F.type_list_append mt_append (pv 13) (pa_cons (pv 19) pa_nil)))))))))
      (pss_cons (ps_set (i := 15) sc__law_fall_parts.nd rfl (Or.inl rfl) (pe_lst (pa_cons (pe_tup (pa_cons pe_int (pa_cons (pe_op (add_K (K := K) rfl) (pe_op (mul_K (K := K) rfl) (pe_lst (pa_cons pe_int pa_nil)) (pe_callB (len_K (K := K) rfl) rfl T.m_len bt_len (pa_cons (pv 6) pa_nil))) (pe_lst (pa_cons (pv 2) pa_nil))) pa_nil))) pa_nil)))
      (pss_cons (ps_if (pt_cmpR op_gt (pe_callB (len_K (K := K) rfl) rfl T.m_len bt_len (pa_cons (pv 7) pa_nil)) pe_int (nomark _)) (pss_one (ps_expr (pe_bm PySem.F.plainAttrs_list PySem.F.slot_list_append PySem.F.type_list_append mt_append (pv 15) (pa_cons (pe_tup (pa_cons pe_int (pa_cons (pe_lst (pa_cons pe_int (pa_cons pe_int pa_nil))) pa_nil))) pa_nil)))) pss_nil)
      (pss_cons (ps_set (i := 16) sc__law_fall_parts.nd rfl (Or.inl rfl) (pe_tup (pa_cons pe_int (pa_cons (pe_cal k__law_both (hr.mono (by decide)) rfl (pa_cons (pe_slice (sl_K (K := K) rfl) (pv 8) po_none (po_some (pe_un un_neg pe_int))) pa_nil)) pa_nil))))
      (pss_cons (ps_set (i := 17) sc__law_fall_parts.nd rfl (Or.inl rfl) (pe_lst (pa_cons (pv 6) (pa_cons (pv 11) (pa_cons (pv 12) (pa_cons (pv 8) (pa_cons (pv 3) pa_nil)))))))
      (pss_one (ps_ret (pe_op (add_K (K := K) rfl) (pv 17) (pe_lst (pa_cons (pv 9) (pa_cons (pv 13) (pa_cons (pv 15) (pa_cons (pv 16) pa_nil))))))))))))))))), ?_⟩)
  rintro ⟨t, u, g, o, s, W⟩ ⟨h, hg, hw⟩
  have hg : WfGoal t.n g o s u := hg
  have hw : WfTold t.n W := hw
  have hn : t.n ≤ 3 := h.n3
  have hp : t.ps.length ≤ 6 := h.pl
  have hml : t.ms.length ≤ 40 := h.ml
  have gl := hg.gl
  have o1 := hg.o1
  have o3 := hg.o3
  have rl := hw.rl
  have ml := hw.ml
  have ld : W.measure.dropLast.length = t.n := by rw [List.length_dropLast, ml]; rfl
  have mb : ∀ x ∈ W.measure.dropLast, Bd 500 x := fun x hx => hw.mb x (mem_dl hx)
  have bo : Bd 7 o := small_b (by omega) (by decide)
  have bg : ∀ c ∈ g, Bd 500 c := fun c hc => small_b (by have := hg.gb c hc; omega) (by decide)
  have b1 : Bd 2000 1 := small_b (by decide) (by decide)
  refine rq_asg (R := fun d => d = toldD W) (ev_var rfl) fun d e => ?_
  subst e
  refine ⟨_, _, tg_tup rfl (tgs_cons tg_name (tgs_cons tg_name (tgs_cons tg_name (tgs_cons tg_name (tgs_cons tg_name (tgs_cons tg_name tgs_nil)))))), ?_⟩
  refine rq_set (R := fun d => Tr 2000 1 d) ((ev_lcP (Q := IsSh 2000) (ei_lst (ds := W.room.map dt) (ev_var rfl)) (by rw [List.length_map]; omega) (fun _ h => h) fun d hd => ?_).toR.mono fun d ⟨es, e, l, hes⟩ => ⟨es, e, by rw [l, List.length_map]; omega, fun x hx => .inl (hes x hx)⟩) ?_
  · obtain ⟨r, hr, rfl⟩ := List.mem_map.mp hd
    have lr := hw.rw r hr
    refine ⟨_, tg_name, ev_sh (L := 100) (by decide) b1 ev_int ((ev_callD (true, r.dropLast, 500) (ea_consD (ev_lastT (r := r) (ev_var rfl) (ev_neg ev_int)) ea_nil) ⟨by show r.dropLast.length ≤ 20; rw [List.length_dropLast]; omega, fun x hx => hw.rb r hr x (mem_dl hx)⟩).mono fun d ⟨xs, e, l, b⟩ => ⟨_, e, xs, rfl, ?_, fun x hx => (b x hx).mono (by show 501 ≤ 2000; decide)⟩)⟩
    have l : xs.length = 2 * r.dropLast.length := l
    rw [l, List.length_dropLast]; omega
  intro starts hst
  refine rq_ownD ev_nil fun a1 => ?_
  refine rq_ownD ev_nil fun a2 => ?_
  refine rq_forD (ei_lst (ds := t.ms.map (mdT t.n)) (ev_ixT rfl (ev_var rfl) ev_int)) (fun k ρ => ∃ (x14 x18 x19 x20 : Option Sl) (es fs : List D), ρ = [some (.p (spD t u)), some (.p (dl g)), some (.p (.int o)), some (.p (.int s)), some (.p (toldD W)), some (.p (prs W.bs)), some (.p (room W.room)), some (.p (room W.aims)), some (.p (dt W.measure)), some (.p (.int W.top)), some (.p (.int W.turns)), some (.p starts), some (.o a1 es), some (.o a2 fs), x14, none, none, none, x18, x19, x20] ∧ es.length = k ∧ (∀ e ∈ es, Tr 2000 1 e) ∧ fs.length = k ∧ ∀ e ∈ fs, Tr 2000 1 e) ⟨none, none, none, none, [], [], rfl, rfl, (fun e h => nomatch h), rfl, (fun e h => nomatch h)⟩ ?_ ?_
  · rintro k d ρ1 hd ⟨x14, x18, x19, x20, es, fs, rfl, le, he, lf, hf⟩
    obtain ⟨m, hm, rfl⟩ := map_get hd
    have hk := (List.getElem?_eq_some_iff.mp hm).1
    have wm : WfMd t.n t.ps.length m := h.mw m (mem_at hm)
    have mrl := wm.rl
    have dvb : Bd 2000 m.div := wm.bd.mono (by decide)
    refine ⟨_, _, tg_name, ?_⟩
    refine rq_setD (d := dl (zeros m.rows.length)) (ev_zeros (k := m.rows.length) (by omega) (ev_is (ev_len (xs := m.rows.map dt) (ev_ixT rfl (ev_var rfl) ev_int)) (by rw [List.length_map]))).toD ?_
    have zl : (zeros m.rows.length).length ≤ 100 := by rw [List.length_replicate]; exact mrl
    have zb : ∀ x ∈ zeros m.rows.length, Bd 2000 x := fun x hx => by rw [(List.mem_replicate.mp hx).2]; exact Bd.zero
    have pin : ∀ d, (∃ xs : List Int, d = dl xs ∧ xs.length ≤ 20 ∧ ∀ x ∈ xs, Bd 1600 x) → ILd 20 2000 d := fun d ⟨xs, e, l, b⟩ => ⟨_, e, xs, rfl, l, fun x hx => (b x hx).mono (by decide)⟩
    refine rq_app (i := 12) (R := fun d => Tr 2000 1 d) rfl (by omega) ((ev_lcP (Q := IsSh 2000) (ei_lst (ds := W.room.map dt) (ev_var rfl)) (by rw [List.length_map]; omega) (fun _ h => h) fun d hd => ?_).toR.mono fun d ⟨es, e, l, hes⟩ => ⟨es, e, by rw [l, List.length_map]; omega, fun x hx => .inl (hes x hx)⟩) ?_
    · exact ⟨_, tg_name, ev_sh (L := 1 + 100 + 20) (by decide) b1 ev_int (il_cat (by decide) (il_cat (by decide) (il_one dvb (ev_ixT rfl (ev_var rfl) ev_int)) (il_var zl zb (ev_var rfl))) ((ev_callD (t, u, m, false, g) (ea_consD (ev_var rfl) (ea_consD (ev_var rfl) (ea_consD (ev_var rfl) ea_nil))) ⟨h, wm, by show t.n ≤ g.length; omega, bg⟩).mono pin))⟩
    intro st' hst'
    refine rq_own (Rs := fun ds => ds.length = 1 ∧ ∀ e ∈ ds, IsSh 2000 e) (ev_lst ((ea_cons (ev_sh (L := W.room.length + 100 + 1 + 20) (by omega) b1 ev_int (il_cat (by omega) (il_cat (by omega) (il_cat (by omega) (il_zeros (k := W.room.length) (by omega) (ev_is (ev_len (xs := W.room.map dt) (ev_var rfl)) (by rw [List.length_map]))) (il_var zl zb (ev_var rfl))) (il_one Bd.zero ev_int)) ((ev_callD (t, u, m, true, W.measure.dropLast) (ea_consD (ev_var rfl) (ea_consD (ev_var rfl) (ea_consD (ev_lastT (r := W.measure) (ev_var rfl) (ev_neg ev_int)) ea_nil))) ⟨h, wm, by show t.n ≤ W.measure.dropLast.length; omega, mb⟩).mono pin))) ea_nil).mono fun ds ⟨d, r, e, hd, e2⟩ => ⟨by rw [e, e2] <;> rfl, fun x hx => by rw [e, e2] at hx; rw [List.mem_singleton.mp hx]; exact hd⟩) fun ds ⟨l, _⟩ => by rw [l]; decide) ?_
    rintro a3 sm ⟨l1, hsm⟩
    refine r_seq (fun ρ => ∃ (ds : List D), ρ = [some (.p (spD t u)), some (.p (dl g)), some (.p (.int o)), some (.p (.int s)), some (.p (toldD W)), some (.p (prs W.bs)), some (.p (room W.room)), some (.p (room W.aims)), some (.p (dt W.measure)), some (.p (.int W.top)), some (.p (.int W.turns)), some (.p starts), some (.o a1 (es ++ [st'])), some (.o a2 fs), some (.p (mdT t.n m)), none, none, none, some (.p (dl (zeros m.rows.length))), some (.o a3 ds), x20] ∧ ds.length ≤ 2 ∧ ∀ e ∈ ds, IsSh 2000 e) ?_ ?_
    · refine r_if (etD (ev_gt (ev_len (xs := W.aims.map dt) (ev_var rfl)) ev_int)) (fun _ => ?_) (fun _ => r_next ⟨sm, rfl, by omega, hsm⟩)
      refine r_app (i := 19) (R := IsSh 2000) rfl (by omega) (ev_sh (L := 1 + 100 + 1 + 2 * t.ps.length) (by omega) Bd.zero ev_int (il_cat (by omega) (il_cat (by decide) (il_cat (by decide) (il_one b1 ev_int) (il_var zl zb (ev_var rfl))) (il_one b1 ev_int)) (il_zeros (k := 2 * t.ps.length) (by omega) (ev_is (ev_mul (a := 7) (b := 7) (small_b (by decide) (by decide)) (small_b (by rw [List.length_map]; omega) (by decide)) (by decide) (by decide) (by decide) ev_int (ev_len (xs := t.ps.map fun b => .tup [.int b.1, .int b.2]) (ev_ixT rfl (ev_var rfl) ev_int))) (by show D.int _ = D.int _; rw [List.length_map, Int.natCast_mul] <;> rfl))))) fun d hd => ⟨sm ++ [d], rfl, by rw [List.length_append, l1] <;> exact Nat.le_refl 2, fun e he => ?_⟩
      rcases List.mem_append.mp he with he | he
      · exact hsm e he
      · rw [List.mem_singleton.mp he]; exact hd
    rintro ρ1 ⟨ds, rfl, l2, hds⟩
    refine r_freeze (i := 19) rfl ?_
    refine r_app (i := 13) (R := fun d => d = .lst ds) rfl (by omega) (ev_var rfl) fun d e => ?_
    subst e
    refine ⟨_, _, _, _, es ++ [st'], fs ++ [.lst ds], rfl, by rw [List.length_append, le] <;> rfl, fun e h => ?_, by rw [List.length_append, lf] <;> rfl, fun e h => ?_⟩
    · rcases List.mem_append.mp h with h | h
      · exact he e h
      · rw [List.mem_singleton.mp h]; exact hst'
    · rcases List.mem_append.mp h with h | h
      · exact hf e h
      · rw [List.mem_singleton.mp h]; exact ⟨ds, rfl, by omega, fun x hx => .inl (hds x hx)⟩
  rintro ρ1 ⟨x14, x18, x19, x20, es, fs, rfl, le, he, lf, hf⟩
  rw [List.length_map] at le lf
  refine r_freeze (i := 12) rfl (r_freeze (i := 13) rfl ?_)
  refine rq_own (Rs := fun ds => ds.length = 1 ∧ ∀ e ∈ ds, IsSh 2000 e) (ev_lst ((ea_cons (ev_sh (L := W.room.length + 1) (by omega) b1 ev_int (il_cat (by omega) (il_zeros (k := W.room.length) (by omega) (ev_is (ev_len (xs := W.room.map dt) (ev_var rfl)) (by rw [List.length_map]))) (il_one (bo.mono (by decide)) (ev_var rfl)))) ea_nil).mono fun ds ⟨d, r, e, hd, e2⟩ => ⟨by rw [e, e2] <;> rfl, fun x hx => by rw [e, e2] at hx; rw [List.mem_singleton.mp hx]; exact hd⟩) fun ds ⟨l, _⟩ => by rw [l]; decide) ?_
  rintro a4 fl ⟨l1, hfl⟩
  refine r_seq (fun ρ => ∃ (ds : List D), ρ = [some (.p (spD t u)), some (.p (dl g)), some (.p (.int o)), some (.p (.int s)), some (.p (toldD W)), some (.p (prs W.bs)), some (.p (room W.room)), some (.p (room W.aims)), some (.p (dt W.measure)), some (.p (.int W.top)), some (.p (.int W.turns)), some (.p starts), some (.p (.lst es)), some (.p (.lst fs)), x14, some (.o a4 ds), none, none, x18, x19, x20] ∧ ds.length ≤ 2 ∧ ∀ e ∈ ds, IsSh 2000 e) ?_ ?_
  · refine r_if (etD (ev_gt (ev_len (xs := W.aims.map dt) (ev_var rfl)) ev_int)) (fun _ => ?_) (fun _ => r_next ⟨fl, rfl, by omega, hfl⟩)
    refine r_app (i := 15) (R := IsSh 2000) rfl (by omega) (ev_sh (L := 2) (by decide) Bd.zero ev_int ((ev_lstD (ea_consD ev_int (ea_consD ev_int ea_nil)) (by show 2 ≤ 100000; decide)).toR.mono fun d ⟨ds, e, e2⟩ => ⟨ds, e, [1, 1], e2, by decide, fun x hx => by
      rcases List.mem_cons.mp hx with rfl | hx
      · exact b1
      · rw [List.mem_singleton.mp hx]; exact b1⟩)) fun d hd => ⟨fl ++ [d], rfl, by rw [List.length_append, l1] <;> exact Nat.le_refl 2, fun e he => ?_⟩
    rcases List.mem_append.mp he with he | he
    · exact hfl e he
    · rw [List.mem_singleton.mp he]; exact hd
  rintro ρ1 ⟨ds, rfl, l2, hds⟩
  refine r_freeze (i := 15) rfl ?_
  refine rq_set (R := IsSh 2000) (ev_sh (L := 100) (by decide) b1 ev_int ((ev_callD (true, W.measure.dropLast, 500) (ea_consD (ev_lastT (r := W.measure) (ev_var rfl) (ev_neg ev_int)) ea_nil) ⟨by show W.measure.dropLast.length ≤ 20; omega, mb⟩).mono fun d ⟨xs, e, l, b⟩ => ⟨_, e, xs, rfl, ?_, fun x hx => (b x hx).mono (by show 501 ≤ 2000; decide)⟩)) ?_
  · have l : xs.length = 2 * W.measure.dropLast.length := l
    omega
  intro tops htops
  refine rq_setD (d := .lst [room W.room, starts, .lst es, dt W.measure, .int s]) (ev_lstD (ea_consD (ev_var rfl) (ea_consD (ev_var rfl) (ea_consD (ev_var rfl) (ea_consD (ev_var rfl) (ea_consD (ev_var rfl) ea_nil))))) (by show 5 ≤ 100000; decide)).toD ?_
  refine r_retD (ev_cat (by show 5 + 4 ≤ 100000; decide) (ev_var rfl) (ev_lstD (ea_consD (ev_var rfl) (ea_consD (ev_var rfl) (ea_consD (ev_var rfl) (ea_consD (ev_var rfl) ea_nil)))) (by show 4 ≤ 100000; decide)).toD).toD ⟨⟨W.room, starts, .lst es, W.measure, s, W.top, .lst fs, .lst ds, tops⟩, rfl, rfl, rfl, rfl, rfl, ⟨hst, ⟨es, rfl, by omega, fun x hx => .inr (he x hx)⟩, ⟨fs, rfl, by omega, fun x hx => .inr (hf x hx)⟩, ⟨ds, rfl, by omega, fun x hx => .inl (hds x hx)⟩, htops⟩⟩

theorem ok_law (T : Txt K mg) (F : FunD K "law" "law" (defArgs slaw) (defBody slaw) (defScope slaw) [] [] f fd) (k__law_lies : Cal P w K mg base "_law_lies" 6 ["_law_room", "_law_point_here"] (sp__law_lies K)) (k__law_cell_at : Cal P w K mg base "_law_cell_at" 1 ["_law_script", "_law_k"] (sp__law_cell_at K)) (k__law_point : Cal P w K mg base "_law_point" 3 ["_law_cell", "_law_box_here"] (sp__law_point K)) (k__law_run : Cal P w K mg base "_law_run" 7 ["_law_spec", "_law_point_here", "_law_cells"] (sp__law_run K)) (k__law_rows : Cal P w K mg base "_law_rows" 1 ["_law_box_here"] (sp__law_rows K)) (k_Comes_init : CalI P w K mg base "Comes" (cComes K) 1 ["self", "start", "goal", "turns"] (sp_Comes_init K)) (k__law_made : Cal P w K mg base "_law_made" 7 ["_law_spec"] (sp__law_made K)) (k_lets_by : Cal P w K mg base "lets_by" 7 ["thing", "claim", "paper"] (sp_lets_by K)) (k_Falls_init : CalI P w K mg base "Falls" (cFalls K) 22 ["self", "room", "starts", "steps", "measure", "step", "top", "falls", "floors", "tops"] (sp_Falls_init K)) (k__law_fall_parts : Cal P w K mg base "_law_fall_parts" 3 ["_law_spec", "_law_goal", "_law_often", "_law_step", "_law_told"] (sp__law_fall_parts K)) (k__law_spoilt : Cal P w K mg base "_law_spoilt" 22 ["_law_parts", "_law_cell"] (sp__law_spoilt K)) (k__law_falling : Cal P w K mg base "_law_falling" 3 ["_law_spec", "_law_goal", "_law_often", "_law_step", "_law_cell"] (sp__law_falling K)) (k__law_drift : Cal P w K mg base "_law_drift" 3 ["_law_script"] (sp__law_drift K)) : FnOk P w K mg base CX0 24 f fd ["_law_script"] (sp_law K) := by
  refine fn_ok F sc_law (fun _ => rfl) (fun cdv A' outer s H E hr => ⟨_, (pss_cons (ps_asg (pe_cal k__law_drift (hr.mono (by decide)) rfl (pa_cons (pv 0) pa_nil)) (tup_K (K := K) (n := 4) rfl rfl (pgs_cons (pg_name (i := 1) sc_law.nd rfl (Or.inl rfl)) (pgs_cons (pg_name (i := 2) sc_law.nd rfl (Or.inl rfl)) (pgs_cons (pg_name (i := 3) sc_law.nd rfl (Or.inl rfl)) (pgs_cons (pg_name (i := 4) sc_law.nd rfl (Or.inl rfl)) pgs_nil))))))
      (pss_cons (ps_set (i := 5) sc_law.nd rfl (Or.inl rfl) (pe_cal k__law_falling (hr.mono (by decide)) rfl (pa_cons (pv 1) (pa_cons (pv 2) (pa_cons (pv 3) (pa_cons (pv 4) (pa_cons (pe_cal k__law_cell_at (hr.mono (by decide)) rfl (pa_cons (pv 0) (pa_cons pe_int pa_nil))) pa_nil)))))))
      (pss_cons (ps_set (i := 6) sc_law.nd rfl (Or.inl rfl) (pe_cal k__law_spoilt (hr.mono (by decide)) rfl (pa_cons (pe_cal k__law_fall_parts (hr.mono (by decide)) rfl (pa_cons (pv 1) (pa_cons (pv 2) (pa_cons (pv 3) (pa_cons (pv 4) (pa_cons (pv 5) pa_nil)))))) (pa_cons (pe_cal k__law_cell_at (hr.mono (by decide)) rfl (pa_cons (pv 0) (pa_cons pe_int pa_nil))) pa_nil))))
      (pss_cons (ps_asg (pe_slice (sl_K (K := K) rfl) (pv 6) po_none (po_some pe_int)) (unl_K (K := K) (n := 4) rfl rfl (pgs_cons (pg_name (i := 7) sc_law.nd rfl (Or.inl rfl)) (pgs_cons (pg_name (i := 8) sc_law.nd rfl (Or.inl rfl)) (pgs_cons (pg_name (i := 9) sc_law.nd rfl (Or.inl rfl)) (pgs_cons (pg_name (i := 10) sc_law.nd rfl (Or.inl rfl)) pgs_nil))))))
      (pss_cons (ps_asg (pe_slice (sl_K (K := K) rfl) (pv 6) (po_some pe_int) po_none) (unl_K (K := K) (n := 5) rfl rfl (pgs_cons (pg_name (i := 4) sc_law.nd rfl (Or.inl rfl)) (pgs_cons (pg_name (i := 11) sc_law.nd rfl (Or.inl rfl)) (pgs_cons (pg_name (i := 12) sc_law.nd rfl (Or.inl rfl)) (pgs_cons (pg_name (i := 13) sc_law.nd rfl (Or.inl rfl)) (pgs_cons (pg_name (i := 14) sc_law.nd rfl (Or.inl rfl)) pgs_nil)))))))
      (pss_cons (ps_set (i := 15) sc_law.nd rfl (Or.inl rfl) (pe_mk k_Falls_init (hr.mono (by decide)) rfl (pa_cons (pv 7) (pa_cons (pv 8) (pa_cons (pv 9) (pa_cons (pv 10) (pa_cons (pv 4) (pa_cons (pv 11) (pa_cons (pv 12) (pa_cons (pv 13) (pa_cons (pv 14) pa_nil)))))))))))
      (pss_cons (ps_asg (pe_tup (pa_cons (pe_ix (ix_K (K := K) rfl) (pv 5) pe_int (fun _ _ => rfl)) (pa_cons (pe_ix (ix_K (K := K) rfl) (pv 5) pe_int (fun _ _ => rfl)) (pa_cons (pe_ix (ix_K (K := K) rfl) (pv 5) pe_int (fun _ _ => rfl)) pa_nil)))) (tup_K (K := K) (n := 3) rfl rfl (pgs_cons (pg_name (i := 16) sc_law.nd rfl (Or.inl rfl)) (pgs_cons (pg_name (i := 17) sc_law.nd rfl (Or.inr rfl)) (pgs_cons (pg_name (i := 18) sc_law.nd rfl (Or.inl rfl)) pgs_nil)))))
      (pss_cons (ps_if (pt_not (pt_val (pe_cal k_lets_by (hr.mono (by decide)) rfl (pa_cons (pe_cal k__law_made (hr.mono (by decide)) rfl (pa_cons (pv 1) pa_nil)) (pa_cons (pe_mk k_Comes_init (hr.mono (by decide)) rfl (pa_cons (pe_cal k__law_rows (hr.mono (by decide)) rfl (pa_cons (pv 16) pa_nil)) (pa_cons (pe_callTy (list_K (K := K) rfl) rfl T.m_list bt_list (pa_cons (pv 17) pa_nil)) (pa_cons (pv 18) pa_nil)))) (pa_cons (pv 15) pa_nil)))))) (pss_one (ps_ret pe_bl)) pss_nil)
      (pss_cons (ps_set (i := 19) sc_law.nd rfl (Or.inl rfl) (pe_cal k__law_run (hr.mono (by decide)) rfl (pa_cons (pv 1) (pa_cons (pe_cal k__law_point (hr.mono (by decide)) rfl (pa_cons (pe_cal k__law_cell_at (hr.mono (by decide)) rfl (pa_cons (pv 0) (pa_cons pe_int pa_nil))) (pa_cons (pv 16) pa_nil))) (pa_cons (pe_slice (sl_K (K := K) rfl) (pv 0) (po_some pe_int) (po_some pe_int)) pa_nil)))))
      (pss_cons (ps_if (pt_cmpR op_le (pe_callB (len_K (K := K) rfl) rfl T.m_len bt_len (pa_cons (pv 19) pa_nil)) (pv 18) (nomark _)) (pss_one (ps_ret pe_bl)) pss_nil)
      (pss_one (ps_ret (pe_callB (any_K (K := K) rfl rfl) rfl T.m_any bt_any (pa_cons (pe_lc (own := [("_law_point_here", 20)]) rfl sc_law.nd (seq_K (K := K) rfl (pe_slice (sl_K (K := K) rfl) (pv 19) po_none (po_some (pe_op (add_K (K := K) rfl) (pv 18) pe_int)))) (blkOk_by (by kernel_rfl)) (fun _ _ _ _ _ => (pg_name (i := 20) sc_law.nd rfl (Or.inl rfl))) (fun _ _ _ _ _ => pts_nil) (fun _ _ _ _ _ => (pe_cal k__law_lies (hr.mono (by decide)) rfl (pa_cons (pv 17) (pa_cons (pv 20) pa_nil))))) pa_nil)))))))))))))), ?_⟩)
  intro sc _
  refine rq_asg (ev_callD sc (ea_consD (ev_var rfl) ea_nil) trivial) ?_
  rintro d ⟨t, u, g, o, s, rfl, h, hg⟩
  refine ⟨_, _, tg_tup rfl (tgs_cons tg_name (tgs_cons tg_name (tgs_cons tg_name (tgs_cons tg_name tgs_nil)))), ?_⟩
  have hn : t.n ≤ 3 := h.n3
  refine rq_set (ev_callD (t, u, g, o, s, sc.getD 2 0) (ea_consD (ev_var rfl) (ea_consD (ev_var rfl) (ea_consD (ev_var rfl) (ea_consD (ev_var rfl) (ea_consD (ev_callD (sc, 2) (ea_consD (ev_var rfl) (ea_consD ev_int ea_nil)) trivial) ea_nil))))) ⟨h, hg⟩) ?_
  rintro d ⟨W, rfl, hw⟩
  have hw : WfTold t.n W := hw
  change Kt.Run K _ [some (.p (.scr sc)), some (.p (spD t u)), some (.p (dl g)), some (.p (.int o)), some (.p (.int s)), some (.p (toldD W)), none, none, none, none, none, none, none, none, none, none, none, none, none, none, none] _
  refine rq_set (R := fun d => ∃ F G : Fl, d = partsD G ∧ Sp8 F G ∧ F.room = W.room ∧ F.measure = W.measure ∧ F.step = s ∧ F.top = W.top) (ev_call (ea_cons (ev_callD (t, u, g, o, s, W) (ea_consD (ev_var rfl) (ea_consD (ev_var rfl) (ea_consD (ev_var rfl) (ea_consD (ev_var rfl) (ea_consD (ev_var rfl) ea_nil))))) ⟨h, hg, hw⟩) (ea_consD (ev_callD (sc, 3) (ea_consD (ev_var rfl) (ea_consD ev_int ea_nil)) trivial) ea_nil)) ?_) ?_
  · rintro ds ⟨d, r, rfl, ⟨F, rfl, f1, f2, f3, f4, f5⟩, rfl⟩
    exact ⟨(F, sc.getD 3 0), rfl, f5, fun d ⟨G, e, sp⟩ => ⟨F, G, e, sp, f1, f2, f3, f4⟩⟩
  rintro d ⟨F, G, rfl, sp, f1, f2, f3, f4⟩
  have gr : G.room = W.room := by rw [sp.room, f1]
  have gm : G.measure = W.measure := by rw [sp.measure, f2]
  have wF : WfFl t.n G := {
    rl := by rw [gr]; have := hw.rl; omega
    rw := by rw [gr]; exact hw.rw
    rb := by rw [gr]; exact fun r hr x hx => (hw.rb r hr x hx).mono (by decide)
    ml := by rw [gm]; exact hw.ml
    mb := by rw [gm]; exact fun x hx => (hw.mb x hx).mono (by decide)
    sb := by
      rcases sp.step with e | e <;> rw [e, f3]
      · exact hg.sb.mono (by decide)
      · exact (Bd.add (a := 130) hg.sb (small_b (by decide) (by decide))).mono (by decide)
    tb := by
      rcases sp.top with e | e <;> rw [e, f4]
      · exact hw.tb.mono (by decide)
      · exact (Bd.sub (a := 600) hw.tb (small_b (by decide) (by decide))).mono (by decide)
    o1 := by obtain ⟨q, k, _⟩ := sp.o1; exact ⟨q, k.wide (by decide)⟩
    o2 := by obtain ⟨q, k, _⟩ := sp.o2; exact ⟨q, k.wide (by decide)⟩
    o3 := by obtain ⟨q, k, _⟩ := sp.o3; exact ⟨q, k.wide (by decide)⟩
    o4 := by obtain ⟨q, k, _⟩ := sp.o4; exact ⟨q, k.wide (by decide)⟩
    o5 := by obtain ⟨q, k, _⟩ := sp.o5; exact ⟨q, k.wide (by decide)⟩ }
  have up : ∀ {d : D}, (∃ q, Ok 2001 q d ∧ q ≤ 20) → Ok 2001 20 d := fun ⟨q, k, l⟩ => k.le l
  have okR : Ok 2001 20 (room G.room) := (ok_room (n := 0) (by have := wF.rl; omega) (fun r hr => by rw [wF.rw r hr]; omega) (fun r hr x hx => (wF.rb r hr x hx).mono (by decide)) : Ok 2001 2 (room G.room)).le (by decide)
  refine rq_asg (R := fun d => d = .lst [room G.room, G.starts, G.steps, dt G.measure]) ((ev_slL (xs := [room G.room, G.starts, G.steps, dt G.measure, .int G.step, .int G.top, G.falls, G.floors, G.tops]) (ev_var rfl) eo_none (eo_some ev_int)).toD) fun d e => ?_
  subst e
  refine ⟨_, _, tg_unl rfl (tgs_cons tg_name (tgs_cons tg_name (tgs_cons tg_name (tgs_cons tg_name tgs_nil)))), ?_⟩
  refine rq_asg (R := fun d => d = .lst [.int G.step, .int G.top, G.falls, G.floors, G.tops]) ((ev_slL (xs := [room G.room, G.starts, G.steps, dt G.measure, .int G.step, .int G.top, G.falls, G.floors, G.tops]) (ev_var rfl) (eo_some ev_int) eo_none).toD) fun d e => ?_
  subst e
  refine ⟨_, _, tg_unl rfl (tgs_cons tg_name (tgs_cons tg_name (tgs_cons tg_name (tgs_cons tg_name (tgs_cons tg_name tgs_nil))))), ?_⟩
  change Kt.Run K _ [some (.p (.scr sc)), some (.p (spD t u)), some (.p (dl g)), some (.p (.int o)), some (.p (.int G.step)), some (.p (toldD W)), some (.p (partsD G)), some (.p (room G.room)), some (.p G.starts), some (.p G.steps), some (.p (dt G.measure)), some (.p (.int G.top)), some (.p G.falls), some (.p G.floors), some (.p G.tops), none, none, none, none, none, none] _
  refine rq_set (R := fun d => d = flO K G) (ev_make (ea_consD (ev_var rfl) (ea_consD (ev_var rfl) (ea_consD (ev_var rfl) (ea_consD (ev_var rfl) (ea_consD (ev_var rfl) (ea_consD (ev_var rfl) (ea_consD (ev_var rfl) (ea_consD (ev_var rfl) (ea_consD (ev_var rfl) ea_nil))))))))) fun es e => ⟨G, e.symm, ⟨2001, okR, up sp.o1, up sp.o2, up sp.o3, up sp.o4, up sp.o5⟩, fun fs z => by rw [z] <;> rfl⟩) fun d e => ?_
  subst e
  refine rq_asg (R := fun d => d = .tup [prs W.bs, room W.aims, .int W.turns]) (ev_tup (ea_consD (ev_ixT rfl (ev_var rfl) ev_int) (ea_consD (ev_ixT rfl (ev_var rfl) ev_int) (ea_consD (ev_ixT rfl (ev_var rfl) ev_int) ea_nil))) (by show 3 ≤ 100000; decide)) fun d e => ?_
  subst e
  refine ⟨_, _, tg_tup rfl (tgs_cons tg_name (tgs_cons tg_name (tgs_cons tg_name tgs_nil))), ?_⟩
  change Kt.Run K _ [some (.p (.scr sc)), some (.p (spD t u)), some (.p (dl g)), some (.p (.int o)), some (.p (.int G.step)), some (.p (toldD W)), some (.p (partsD G)), some (.p (room G.room)), some (.p G.starts), some (.p G.steps), some (.p (dt G.measure)), some (.p (.int G.top)), some (.p G.falls), some (.p G.floors), some (.p G.tops), some (.p (flO K G)), some (.p (prs W.bs)), some (.p (room W.aims)), some (.p (.int W.turns)), none, none] _
  have bl := hw.bl
  have wC : WfCo t.n ⟨boxRows W.bs, W.aims, W.turns⟩ := {
    sl := by
      have : (boxRows W.bs).length = 2 * W.bs.length := boxRows_len W.bs W.bs.length
      show (boxRows W.bs).length ≤ 100
      omega
    sw := fun r hr => by rw [Pl.boxRows_w r hr, bl]
    sb := fun r hr x hx => (boxRows_b (by decide) hw.bw.bd r hr x hx).mono (by decide)
    gl := by have := hw.al; show W.aims.length ≤ 100; omega
    gw := hw.aw
    gb := fun r hr x hx => (hw.ab r hr x hx).mono (by decide)
    tb := hw.ub.mono (by decide) }
  refine rq_if (et_notP (ev_callD (G, t, ⟨boxRows W.bs, W.aims, W.turns⟩) (ea_consD (ev_callD (t, u) (ea_consD (ev_var rfl) ea_nil) h) (ea_consD (ev_make (R := fun d => d = coO K ⟨boxRows W.bs, W.aims, W.turns⟩) (ea_consD (ev_callD W.bs (ea_consD (ev_var rfl) ea_nil) (by show W.bs.length ≤ 10; omega)) (ea_consD (ev_list (xs := W.aims.map dt) (ev_var rfl)).toD (ea_consD (ev_var rfl) ea_nil))) fun es e => ⟨((boxRows W.bs).map dt, W.aims.map dt, .int W.turns), e.symm, trivial, fun fs z => by rw [z] <;> rfl⟩) (ea_consD (ev_var rfl) ea_nil))) ⟨h, wF, wC, fun r hr x hx => (hw.ab r hr x hx).mono (by decide)⟩)) (fun _ => r_retD ev_bl rfl) (fun z => r_next ?_)
  have fs : ForS G t ⟨boxRows W.bs, W.aims, W.turns⟩ := z rfl
  refine rq_set (R := fun d => ∃ qs pts, d = .lst (pts.map dqs) ∧ InBox W.bs qs ∧ pts.length ≤ 31 ∧ RunOk t qs pts) (ev_call (ea_cons (R := fun d => d = spD t u) (ev_var rfl) (ea_cons (ev_callD (sc.getD 4 0, W.bs) (ea_consD (ev_callD (sc, 4) (ea_consD (ev_var rfl) (ea_consD ev_int ea_nil)) trivial) (ea_consD (ev_var rfl) ea_nil)) ⟨by show W.bs.length ≤ 10; omega, hw.bw.mono (by decide)⟩) (ea_consD (ev_slS (ns := sc) (ev_var rfl) (eo_some ev_int) (eo_some ev_int)).toD ea_nil))) ?_) ?_
  · rintro ds ⟨d, r, rfl, rfl, d2, r2, rfl, ⟨qs, rfl, inb, sq⟩, rfl⟩
    refine ⟨(t, u, qs, cutL sc (some 5) (some 35)), rfl, ⟨h, inb.1.trans bl, sq, ?_⟩, fun d ⟨pts, e, l, ro⟩ => ⟨qs, pts, e, inb, l, ro⟩⟩
    show (cutL sc (some ((5 : Nat) : Int)) (some ((35 : Nat) : Int))).length ≤ 30
    rw [cut_mid, List.length_take]; omega
  rintro d ⟨qs, pts, rfl, inb, l31, ro⟩
  refine rq_if (etD (ev_le (ev_len (xs := pts.map dqs) (ev_var rfl)) (ev_var rfl))) (fun _ => r_retD ev_bl rfl) (fun z => r_next ?_)
  have z : ¬ ((pts.map dqs).length : Int) ≤ W.turns := of_decide_eq_false z.symm
  rw [List.length_map] at z
  have u0 := hw.u0
  obtain ⟨k, p, hk, hp, hh⟩ := Pl.main h wF wC fs bl rfl inb ro u0 (Int.not_le.mp z)
  obtain ⟨T', hT⟩ : ∃ T' : Nat, W.turns = (T' : Int) := ⟨_, (Int.toNat_of_nonneg u0).symm⟩
  have hk : (k : Int) ≤ W.turns := hk
  have al := hw.al
  refine r_retD (ev_anyT (Pd := fun d => ∃ p, d = dqs p ∧ ∀ r ∈ W.aims, holdQ r p) (ds := (pts.take (T' + 1)).map dqs) (ei_lst (ev_is (ev_slL (xs := pts.map dqs) (hi := some ((T' + 1 : Nat) : Int)) (ev_var rfl) eo_none (eo_some (ev_is (ev_add (ev_var rfl) ev_int) (by show D.int _ = D.int _; rw [hT] <;> rfl)))).toD (by rw [cut_take, List.map_take]))) (by rw [List.length_map, List.length_take]; omega) (fun _ h => h) (fun d hd => ?_) ?_) rfl
  · obtain ⟨p', hp', rfl⟩ := List.mem_map.mp hd
    obtain ⟨j, hj⟩ := List.mem_iff_getElem?.mp (List.mem_of_mem_take hp')
    have jl := (List.getElem?_eq_some_iff.mp hj).1
    obtain ⟨lp, e, e0, e7, hs⟩ := ro.pt j p' hj
    have hM : 12 * e < 2 ^ 1000 := by
      have p211 : (2 : Nat) ^ (7 * j + 1) ≤ 2 ^ 211 := Nat.pow_le_pow_right (by decide) (by omega)
      calc 12 * e < 2 ^ 4 * 2 ^ 211 := Nat.mul_lt_mul'' (by decide) (Nat.lt_of_lt_of_le e7 p211)
        _ ≤ 2 ^ 1000 := by rw [← Nat.pow_add]; exact Nat.pow_le_pow_right (by decide) (by decide)
    refine ⟨_, tg_name, (ev_callD (W.aims, p') (ea_consD (ev_var rfl) (ea_consD (ev_var rfl) ea_nil)) ⟨by show W.aims.length ≤ 1000; omega, fun r hr => ⟨ne_nil_len (hw.aw r hr), by rw [hw.aw r hr]; omega, fun x hx => (hw.ab r hr x hx).mono (by decide)⟩, 12 * e, by omega, hM, fun q hq => (hs q hq).mono (by omega)⟩).mono fun d ed => ⟨_, ed, fun ⟨p2, e2, hh2⟩ => ?_⟩⟩
    have := dqs_inj e2
    subst this
    exact decide_eq_true hh2
  · refine ⟨dqs p, List.mem_map.mpr ⟨p, List.mem_iff_getElem?.mpr ⟨k, ?_⟩, rfl⟩, p, rfl, hh⟩
    rw [List.getElem?_take_of_lt (by omega)]; exact hp

end
end Tx
end
section
set_option Elab.async false
set_option linter.all false
set_option maxRecDepth 100000
set_option maxHeartbeats 0
set_option autoImplicit false
/-! End: the facts of the head, each def's promise, the row. -/
namespace Tx
open PySem L2 Kr Kt Li Ra
theorem isc_of {K : PySem.W.Frag} {x : Str} (cl : Cls K (He.ga K x)) (h : (He.eqO (PySem.W.findIn K (.ref (He.ga K x)) "__class__") (some (some (.builtin "object.__class__"))) && (He.eqO (PySem.W.specialIn K (.builtin "object.__class__") "__get__") (some (some (.builtin "getset_descriptor.__get__"))) &&
  (decide (PySem.W.takesIn K (.builtin "object.__class__") = some true) && decide (PySem.W.mroIn K (He.ga K x) (.type "object") = some true)))) = true) : IsC K (He.ga K x) := by
  rw [Bool.and_eq_true, Bool.and_eq_true, Bool.and_eq_true] at h
  exact ⟨cl, He.eqO_ok h.1, He.eqO_ok h.2.1, of_decide_eq_true h.2.2.1, of_decide_eq_true h.2.2.2⟩
section
variable {P : Program} {w : World} {K : PySem.W.Frag} {mg : Str → Option Value} {h base : Heap}
theorem txt_of (X : K.In h) (G : h.Ns mainGlobals mg) (c : He.SaysD fa fn K) (cx : ex K = true) : Txt K mg := {
  m_isinstance := He.free_ok X G (c.fact 55 (f := .free "isinstance") rfl)
  m_int := He.free_ok X G (c.fact 56 (f := .free "int") rfl)
  m_bool := He.free_ok X G (c.fact 57 (f := .free "bool") rfl)
  m_list := He.free_ok X G (c.fact 58 (f := .free "list") rfl)
  m_tuple := He.free_ok X G (c.fact 59 (f := .free "tuple") rfl)
  m_len := He.free_ok X G (c.fact 60 (f := .free "len") rfl)
  m_zip := He.free_ok X G (c.fact 61 (f := .free "zip") rfl)
  m_range := He.free_ok X G (c.fact 62 (f := .free "range") rfl)
  m_enumerate := He.free_ok X G (c.fact 63 (f := .free "enumerate") rfl)
  m_sum := He.free_ok X G (c.fact 64 (f := .free "sum") rfl)
  m_max := He.free_ok X G (c.fact 65 (f := .free "max") rfl)
  m_abs := He.free_ok X G (c.fact 66 (f := .free "abs") rfl)
  m_all := He.free_ok X G (c.fact 67 (f := .free "all") rfl)
  m_any := He.free_ok X G (c.fact 68 (f := .free "any") rfl)
  c_MOST_NUMBERS := He.int_ok X G (c.fact 69 (f := .int "MOST_NUMBERS" 3) rfl)
  c_MOST_PUSHES := He.int_ok X G (c.fact 70 (f := .int "MOST_PUSHES" 6) rfl)
  c_MOST_MODES := He.int_ok X G (c.fact 71 (f := .int "MOST_MODES" 40) rfl)
  mg_Comes := He.glo_ok X G (c.fact 1 (f := .glo "Comes") rfl)
  cl_Comes := He.cls_ok (c.fact 72 (f := .cls "Comes") rfl)
  n_Comes_start := He.noat_ok (c.fact 74 (f := .noat "Comes" "start") rfl)
  n_Comes_goal := He.noat_ok (c.fact 75 (f := .noat "Comes" "goal") rfl)
  n_Comes_turns := He.noat_ok (c.fact 76 (f := .noat "Comes" "turns") rfl)
  mg_Mode := He.glo_ok X G (c.fact 17 (f := .glo "Mode") rfl)
  cl_Mode := He.cls_ok (c.fact 77 (f := .cls "Mode") rfl)
  n_Mode_rows := He.noat_ok (c.fact 79 (f := .noat "Mode" "rows") rfl)
  n_Mode_nexts := He.noat_ok (c.fact 80 (f := .noat "Mode" "nexts") rfl)
  n_Mode_steer := He.noat_ok (c.fact 81 (f := .noat "Mode" "steer") rfl)
  n_Mode_push := He.noat_ok (c.fact 82 (f := .noat "Mode" "push") rfl)
  n_Mode_add := He.noat_ok (c.fact 83 (f := .noat "Mode" "add") rfl)
  n_Mode_divisor := He.noat_ok (c.fact 84 (f := .noat "Mode" "divisor") rfl)
  mg_Thing := He.glo_ok X G (c.fact 20 (f := .glo "Thing") rfl)
  cl_Thing := He.cls_ok (c.fact 85 (f := .cls "Thing") rfl)
  n_Thing_many := He.noat_ok (c.fact 87 (f := .noat "Thing" "many") rfl)
  n_Thing_bounds := He.noat_ok (c.fact 88 (f := .noat "Thing" "bounds") rfl)
  n_Thing_ways := He.noat_ok (c.fact 89 (f := .noat "Thing" "ways") rfl)
  mg_Falls := He.glo_ok X G (c.fact 27 (f := .glo "Falls") rfl)
  cl_Falls := He.cls_ok (c.fact 93 (f := .cls "Falls") rfl)
  n_Falls_room := He.noat_ok (c.fact 95 (f := .noat "Falls" "room") rfl)
  n_Falls_starts := He.noat_ok (c.fact 96 (f := .noat "Falls" "starts") rfl)
  n_Falls_steps := He.noat_ok (c.fact 97 (f := .noat "Falls" "steps") rfl)
  n_Falls_measure := He.noat_ok (c.fact 98 (f := .noat "Falls" "measure") rfl)
  n_Falls_step := He.noat_ok (c.fact 99 (f := .noat "Falls" "step") rfl)
  n_Falls_top := He.noat_ok (c.fact 100 (f := .noat "Falls" "top") rfl)
  n_Falls_falls := He.noat_ok (c.fact 101 (f := .noat "Falls" "falls") rfl)
  n_Falls_floors := He.noat_ok (c.fact 102 (f := .noat "Falls" "floors") rfl)
  n_Falls_tops := He.noat_ok (c.fact 103 (f := .noat "Falls" "tops") rfl)
  is_Mode := isc_of (He.cls_ok (c.fact 77 (f := .cls "Mode") rfl)) (List.all_eq_true.mp cx "Mode" (by simp))
  is_Comes := isc_of (He.cls_ok (c.fact 72 (f := .cls "Comes") rfl)) (List.all_eq_true.mp cx "Comes" (by simp)) }
theorem cal_Thing_is_closed (X : K.In h) (G : h.Ns mainGlobals mg) (c : He.SaysD fa fn K) (T : Txt K mg) : CalM P w K mg base (cThing K) "is_closed" 1 ["self"] (sp_Thing_is_closed K) := by
  obtain ⟨fd, F⟩ := c.def_ 23 (d := dThing_is_closed) rfl
  have b : Binds K fd ["self"] [] := F.bindsN fun _ _ _ _ _ _ us hl => match us, hl with | [_], _ => rfl
  exact ⟨⟨_, _, He.cls_ok (c.fact 85 (f := .cls "Thing") rfl), He.meth_ok (c.fact 92 (f := .meth "Thing" "is_closed") rfl), (ok_Thing_is_closed T F ), b⟩⟩

theorem cal_check_closed (X : K.In h) (G : h.Ns mainGlobals mg) (c : He.SaysD fa fn K) (T : Txt K mg) : Cal P w K mg base "check_closed" 2 ["thing"] (sp_check_closed K) := by
  obtain ⟨fd, F⟩ := c.def_ 0 (d := dcheck_closed) rfl
  have b : Binds K fd ["thing"] [] := F.bindsN fun _ _ _ _ _ _ us hl => match us, hl with | [_], _ => rfl
  exact ⟨⟨_, _, He.glo_ok X G (c.fact 0 (f := .glo "check_closed") rfl), (ok_check_closed T F (cal_Thing_is_closed X G c T)), F.kp, b⟩⟩

theorem cal_Comes_init (X : K.In h) (G : h.Ns mainGlobals mg) (c : He.SaysD fa fn K) (T : Txt K mg) : CalI P w K mg base "Comes" (cComes K) 1 ["self", "start", "goal", "turns"] (sp_Comes_init K) := by
  obtain ⟨fd, F⟩ := c.def_ 1 (d := dComes_init) rfl
  have b : Binds K fd ["self", "start", "goal", "turns"] [] := F.bindsN fun _ _ _ _ _ _ us hl => match us, hl with | [_, _, _, _], _ => rfl
  exact ⟨⟨_, _, He.mkr_ok (c.fact 73 (f := .mkr "Comes") rfl), He.glo_ok X G (c.fact 1 (f := .glo "Comes") rfl), (ok_Comes_init T F ), b⟩⟩

theorem cal_is_whole (X : K.In h) (G : h.Ns mainGlobals mg) (c : He.SaysD fa fn K) (T : Txt K mg) : Cal P w K mg base "is_whole" 1 ["thing"] (sp_is_whole K) := by
  obtain ⟨fd, F⟩ := c.def_ 2 (d := dis_whole) rfl
  have b : Binds K fd ["thing"] [] := F.bindsN fun _ _ _ _ _ _ us hl => match us, hl with | [_], _ => rfl
  exact ⟨⟨_, _, He.glo_ok X G (c.fact 2 (f := .glo "is_whole") rfl), (ok_is_whole T F ), F.kp, b⟩⟩

theorem cal_summed_by (X : K.In h) (G : h.Ns mainGlobals mg) (c : He.SaysD fa fn K) (T : Txt K mg) : Cal P w K mg base "summed_by" 1 ["numbers", "lists", "many"] (sp_summed_by K) := by
  obtain ⟨fd, F⟩ := c.def_ 3 (d := dsummed_by) rfl
  have b : Binds K fd ["numbers", "lists", "many"] [] := F.bindsN fun _ _ _ _ _ _ us hl => match us, hl with | [_, _, _], _ => rfl
  exact ⟨⟨_, _, He.glo_ok X G (c.fact 3 (f := .glo "summed_by") rfl), (ok_summed_by T F ), F.kp, b⟩⟩

theorem cal_widened (X : K.In h) (G : h.Ns mainGlobals mg) (c : He.SaysD fa fn K) (T : Txt K mg) : Cal P w K mg base "widened" 1 ["rows", "many"] (sp_widened K) := by
  obtain ⟨fd, F⟩ := c.def_ 4 (d := dwidened) rfl
  have b : Binds K fd ["rows", "many"] [] := F.bindsN fun _ _ _ _ _ _ us hl => match us, hl with | [_, _], _ => rfl
  exact ⟨⟨_, _, He.glo_ok X G (c.fact 4 (f := .glo "widened") rfl), (ok_widened T F ), F.kp, b⟩⟩

theorem cal_Thing_pushes (X : K.In h) (G : h.Ns mainGlobals mg) (c : He.SaysD fa fn K) (T : Txt K mg) : CalM P w K mg base (cThing K) "pushes" 1 ["self"] (sp_Thing_pushes K) := by
  obtain ⟨fd, F⟩ := c.def_ 21 (d := dThing_pushes) rfl
  have b : Binds K fd ["self"] [] := F.bindsN fun _ _ _ _ _ _ us hl => match us, hl with | [_], _ => rfl
  exact ⟨⟨_, _, He.cls_ok (c.fact 85 (f := .cls "Thing") rfl), He.meth_ok (c.fact 90 (f := .meth "Thing" "pushes") rfl), (ok_Thing_pushes T F ), b⟩⟩

theorem cal_push_rows (X : K.In h) (G : h.Ns mainGlobals mg) (c : He.SaysD fa fn K) (T : Txt K mg) : Cal P w K mg base "push_rows" 2 ["thing"] (sp_push_rows K) := by
  obtain ⟨fd, F⟩ := c.def_ 5 (d := dpush_rows) rfl
  have b : Binds K fd ["thing"] [] := F.bindsN fun _ _ _ _ _ _ us hl => match us, hl with | [_], _ => rfl
  exact ⟨⟨_, _, He.glo_ok X G (c.fact 5 (f := .glo "push_rows") rfl), (ok_push_rows T F (cal_Thing_pushes X G c T)), F.kp, b⟩⟩

theorem cal_standing (X : K.In h) (G : h.Ns mainGlobals mg) (c : He.SaysD fa fn K) (T : Txt K mg) : Cal P w K mg base "standing" 3 ["thing", "rows"] (sp_standing K) := by
  obtain ⟨fd, F⟩ := c.def_ 6 (d := dstanding) rfl
  have b : Binds K fd ["thing", "rows"] [] := F.bindsN fun _ _ _ _ _ _ us hl => match us, hl with | [_, _], _ => rfl
  exact ⟨⟨_, _, He.glo_ok X G (c.fact 6 (f := .glo "standing") rfl), (ok_standing T F (cal_Thing_pushes X G c T) (cal_widened X G c T) (cal_push_rows X G c T)), F.kp, b⟩⟩

theorem cal_reach (X : K.In h) (G : h.Ns mainGlobals mg) (c : He.SaysD fa fn K) (T : Txt K mg) : Cal P w K mg base "reach" 2 ["thing", "mode", "row"] (sp_reach K) := by
  obtain ⟨fd, F⟩ := c.def_ 7 (d := dreach) rfl
  have b : Binds K fd ["thing", "mode", "row"] [] := F.bindsN fun _ _ _ _ _ _ us hl => match us, hl with | [_, _, _], _ => rfl
  exact ⟨⟨_, _, He.glo_ok X G (c.fact 7 (f := .glo "reach") rfl), (ok_reach T F (cal_Thing_pushes X G c T) (cal_summed_by X G c T)), F.kp, b⟩⟩

theorem cal_added (X : K.In h) (G : h.Ns mainGlobals mg) (c : He.SaysD fa fn K) (T : Txt K mg) : Cal P w K mg base "added" 1 ["rows", "numbers", "many"] (sp_added K) := by
  obtain ⟨fd, F⟩ := c.def_ 8 (d := dadded) rfl
  have b : Binds K fd ["rows", "numbers", "many"] [] := F.bindsN fun _ _ _ _ _ _ us hl => match us, hl with | [_, _, _], _ => rfl
  exact ⟨⟨_, _, He.glo_ok X G (c.fact 8 (f := .glo "added") rfl), (ok_added T F ), F.kp, b⟩⟩

theorem cal_are_shares (X : K.In h) (G : h.Ns mainGlobals mg) (c : He.SaysD fa fn K) (T : Txt K mg) : Cal P w K mg base "are_shares" 2 ["thing", "many"] (sp_are_shares K) := by
  obtain ⟨fd, F⟩ := c.def_ 9 (d := dare_shares) rfl
  have b : Binds K fd ["thing", "many"] [] := F.bindsN fun _ _ _ _ _ _ us hl => match us, hl with | [_, _], _ => rfl
  exact ⟨⟨_, _, He.glo_ok X G (c.fact 9 (f := .glo "are_shares") rfl), (ok_are_shares T F (cal_is_whole X G c T)), F.kp, b⟩⟩

theorem cal_shows (X : K.In h) (G : h.Ns mainGlobals mg) (c : He.SaysD fa fn K) (T : Txt K mg) : Cal P w K mg base "shows" 3 ["rows", "target", "shares"] (sp_shows K) := by
  obtain ⟨fd, F⟩ := c.def_ 10 (d := dshows) rfl
  have b : Binds K fd ["rows", "target", "shares"] [] := F.bindsN fun _ _ _ _ _ _ us hl => match us, hl with | [_, _, _], _ => rfl
  exact ⟨⟨_, _, He.glo_ok X G (c.fact 10 (f := .glo "shows") rfl), (ok_shows T F (cal_added X G c T) (cal_are_shares X G c T)), F.kp, b⟩⟩

theorem cal_own_list (X : K.In h) (G : h.Ns mainGlobals mg) (c : He.SaysD fa fn K) (T : Txt K mg) : Cal P w K mg base "own_list" 1 ["thing"] (sp_own_list K) := by
  obtain ⟨fd, F⟩ := c.def_ 12 (d := down_list) rfl
  have b : Binds K fd ["thing"] [] := F.bindsN fun _ _ _ _ _ _ us hl => match us, hl with | [_], _ => rfl
  exact ⟨⟨_, _, He.glo_ok X G (c.fact 12 (f := .glo "own_list") rfl), (ok_own_list T F ), F.kp, b⟩⟩

theorem cal_own (X : K.In h) (G : h.Ns mainGlobals mg) (c : He.SaysD fa fn K) (T : Txt K mg) : Cal P w K mg base "own" 2 ["thing"] (sp_own K) := by
  obtain ⟨fd, F⟩ := c.def_ 11 (d := down) rfl
  have b : Binds K fd ["thing"] [] := F.bindsN fun _ _ _ _ _ _ us hl => match us, hl with | [_], _ => rfl
  exact ⟨⟨_, _, He.glo_ok X G (c.fact 11 (f := .glo "own") rfl), (ok_own T F (cal_own_list X G c T)), F.kp, b⟩⟩

theorem cal_are_wholes (X : K.In h) (G : h.Ns mainGlobals mg) (c : He.SaysD fa fn K) (T : Txt K mg) : Cal P w K mg base "are_wholes" 2 ["thing", "many"] (sp_are_wholes K) := by
  obtain ⟨fd, F⟩ := c.def_ 13 (d := dare_wholes) rfl
  have b : Binds K fd ["thing", "many"] [] := F.bindsN fun _ _ _ _ _ _ us hl => match us, hl with | [_, _], _ => rfl
  exact ⟨⟨_, _, He.glo_ok X G (c.fact 13 (f := .glo "are_wholes") rfl), (ok_are_wholes T F (cal_is_whole X G c T)), F.kp, b⟩⟩

theorem cal_is_row (X : K.In h) (G : h.Ns mainGlobals mg) (c : He.SaysD fa fn K) (T : Txt K mg) : Cal P w K mg base "is_row" 2 ["thing", "many"] (sp_is_row K) := by
  obtain ⟨fd, F⟩ := c.def_ 14 (d := dis_row) rfl
  have b : Binds K fd ["thing", "many"] [] := F.bindsN fun _ _ _ _ _ _ us hl => match us, hl with | [_, _], _ => rfl
  exact ⟨⟨_, _, He.glo_ok X G (c.fact 14 (f := .glo "is_row") rfl), (ok_is_row T F (cal_is_whole X G c T)), F.kp, b⟩⟩

theorem cal_is_room (X : K.In h) (G : h.Ns mainGlobals mg) (c : He.SaysD fa fn K) (T : Txt K mg) : Cal P w K mg base "is_room" 3 ["thing", "many"] (sp_is_room K) := by
  obtain ⟨fd, F⟩ := c.def_ 15 (d := dis_room) rfl
  have b : Binds K fd ["thing", "many"] [] := F.bindsN fun _ _ _ _ _ _ us hl => match us, hl with | [_, _], _ => rfl
  exact ⟨⟨_, _, He.glo_ok X G (c.fact 15 (f := .glo "is_room") rfl), (ok_is_room T F (cal_is_row X G c T)), F.kp, b⟩⟩

theorem cal_is_table (X : K.In h) (G : h.Ns mainGlobals mg) (c : He.SaysD fa fn K) (T : Txt K mg) : Cal P w K mg base "is_table" 3 ["thing", "many", "wide"] (sp_is_table K) := by
  obtain ⟨fd, F⟩ := c.def_ 16 (d := dis_table) rfl
  have b : Binds K fd ["thing", "many", "wide"] [] := F.bindsN fun _ _ _ _ _ _ us hl => match us, hl with | [_, _, _], _ => rfl
  exact ⟨⟨_, _, He.glo_ok X G (c.fact 16 (f := .glo "is_table") rfl), (ok_is_table T F (cal_are_wholes X G c T)), F.kp, b⟩⟩

theorem cal_Mode_init (X : K.In h) (G : h.Ns mainGlobals mg) (c : He.SaysD fa fn K) (T : Txt K mg) : CalI P w K mg base "Mode" (cMode K) 3 ["self", "rows", "nexts", "steer", "push", "add", "divisor"] (sp_Mode_init K) := by
  obtain ⟨fd, F⟩ := c.def_ 17 (d := dMode_init) rfl
  have b : Binds K fd ["self", "rows", "nexts", "steer", "push", "add", "divisor"] [] := F.bindsN fun _ _ _ _ _ _ us hl => match us, hl with | [_, _, _, _, _, _, _], _ => rfl
  exact ⟨⟨_, _, He.mkr_ok (c.fact 78 (f := .mkr "Mode") rfl), He.glo_ok X G (c.fact 17 (f := .glo "Mode") rfl), (ok_Mode_init T F (cal_own X G c T)), b⟩⟩

theorem cal_is_mode (X : K.In h) (G : h.Ns mainGlobals mg) (c : He.SaysD fa fn K) (T : Txt K mg) : Cal P w K mg base "is_mode" 4 ["thing", "many", "wide"] (sp_is_mode K) := by
  obtain ⟨fd, F⟩ := c.def_ 18 (d := dis_mode) rfl
  have b : Binds K fd ["thing", "many", "wide"] [] := F.bindsN fun _ _ _ _ _ _ us hl => match us, hl with | [_, _, _], _ => rfl
  exact ⟨⟨_, _, He.glo_ok X G (c.fact 18 (f := .glo "is_mode") rfl), (ok_is_mode T F (cal_is_whole X G c T) (cal_are_wholes X G c T) (cal_is_table X G c T) (cal_is_room X G c T)), F.kp, b⟩⟩

theorem cal_is_push (X : K.In h) (G : h.Ns mainGlobals mg) (c : He.SaysD fa fn K) (T : Txt K mg) : Cal P w K mg base "is_push" 2 ["thing"] (sp_is_push K) := by
  obtain ⟨fd, F⟩ := c.def_ 19 (d := dis_push) rfl
  have b : Binds K fd ["thing"] [] := F.bindsN fun _ _ _ _ _ _ us hl => match us, hl with | [_], _ => rfl
  exact ⟨⟨_, _, He.glo_ok X G (c.fact 19 (f := .glo "is_push") rfl), (ok_is_push T F (cal_is_whole X G c T)), F.kp, b⟩⟩

theorem cal_Thing_init (X : K.In h) (G : h.Ns mainGlobals mg) (c : He.SaysD fa fn K) (T : Txt K mg) : CalI P w K mg base "Thing" (cThing K) 5 ["self", "many", "pushes", "modes"] (sp_Thing_init K) := by
  obtain ⟨fd, F⟩ := c.def_ 20 (d := dThing_init) rfl
  have b : Binds K fd ["self", "many", "pushes", "modes"] [] := F.bindsN fun _ _ _ _ _ _ us hl => match us, hl with | [_, _, _, _], _ => rfl
  exact ⟨⟨_, _, He.mkr_ok (c.fact 86 (f := .mkr "Thing") rfl), He.glo_ok X G (c.fact 20 (f := .glo "Thing") rfl), (ok_Thing_init T F (cal_is_mode X G c T) (cal_is_push X G c T) (cal_is_whole X G c T)), b⟩⟩

theorem cal_Thing_modes (X : K.In h) (G : h.Ns mainGlobals mg) (c : He.SaysD fa fn K) (T : Txt K mg) : CalM P w K mg base (cThing K) "modes" 1 ["self"] (sp_Thing_modes K) := by
  obtain ⟨fd, F⟩ := c.def_ 22 (d := dThing_modes) rfl
  have b : Binds K fd ["self"] [] := F.bindsN fun _ _ _ _ _ _ us hl => match us, hl with | [_], _ => rfl
  exact ⟨⟨_, _, He.cls_ok (c.fact 85 (f := .cls "Thing") rfl), He.meth_ok (c.fact 91 (f := .meth "Thing" "modes") rfl), (ok_Thing_modes T F ), b⟩⟩

theorem cal_kept (X : K.In h) (G : h.Ns mainGlobals mg) (c : He.SaysD fa fn K) (T : Txt K mg) : Cal P w K mg base "kept" 21 ["thing"] (sp_kept K 21) := by
  obtain ⟨fd, F⟩ := c.def_ 24 (d := dkept) rfl
  have b : Binds K fd ["thing"] [] := F.bindsN fun _ _ _ _ _ _ us hl => match us, hl with | [_], _ => rfl
  have all : ∀ n : Nat, FnOk P w K mg base CX0 n (He.fAd K dkept.at_) fd ["thing"] (sp_kept K n) := fun n => by
    induction n with
    | zero =>
      have no : ∀ vs H Q E, ¬ sp_kept K 0 vs H Q E := fun vs H Q E h => by
        obtain ⟨a, g, _, _, h1, _⟩ := h
        have : 1 ≤ 0 := h1.1
        omega
      exact ⟨fun vs H Q E h => absurd h (no vs H Q E), fun A outer s H args us vs Q E _ _ _ _ h => absurd h (no vs H Q E)⟩
    | succ n ih => exact ok_kept T F ⟨⟨_, _, (He.glo_ok X G (c.fact 21 (f := .glo "kept") rfl)), ih, F.kp, b⟩⟩
  exact ⟨⟨_, _, (He.glo_ok X G (c.fact 21 (f := .glo "kept") rfl)), all 21, F.kp, b⟩⟩

theorem cal_all_show (X : K.In h) (G : h.Ns mainGlobals mg) (c : He.SaysD fa fn K) (T : Txt K mg) : Cal P w K mg base "all_show" 4 ["rows", "targets", "some"] (sp_all_show K) := by
  obtain ⟨fd, F⟩ := c.def_ 25 (d := dall_show) rfl
  have b : Binds K fd ["rows", "targets", "some"] [] := F.bindsN fun _ _ _ _ _ _ us hl => match us, hl with | [_, _, _], _ => rfl
  exact ⟨⟨_, _, He.glo_ok X G (c.fact 22 (f := .glo "all_show") rfl), (ok_all_show T F (cal_shows X G c T)), F.kp, b⟩⟩

theorem cal_is_part (X : K.In h) (G : h.Ns mainGlobals mg) (c : He.SaysD fa fn K) (T : Txt K mg) : Cal P w K mg base "is_part" 1 ["some", "many"] (sp_is_part K) := by
  obtain ⟨fd, F⟩ := c.def_ 26 (d := dis_part) rfl
  have b : Binds K fd ["some", "many"] [] := F.bindsN fun _ _ _ _ _ _ us hl => match us, hl with | [_, _], _ => rfl
  exact ⟨⟨_, _, He.glo_ok X G (c.fact 23 (f := .glo "is_part") rfl), (ok_is_part T F ), F.kp, b⟩⟩

theorem cal_steps_show (X : K.In h) (G : h.Ns mainGlobals mg) (c : He.SaysD fa fn K) (T : Txt K mg) : Cal P w K mg base "steps_show" 5 ["thing", "room", "after", "some"] (sp_steps_show K) := by
  obtain ⟨fd, F⟩ := c.def_ 27 (d := dsteps_show) rfl
  have b : Binds K fd ["thing", "room", "after", "some"] [] := F.bindsN fun _ _ _ _ _ _ us hl => match us, hl with | [_, _, _, _], _ => rfl
  exact ⟨⟨_, _, He.glo_ok X G (c.fact 24 (f := .glo "steps_show") rfl), (ok_steps_show T F (cal_reach X G c T) (cal_all_show X G c T) (cal_standing X G c T) (cal_is_part X G c T) (cal_Thing_modes X G c T)), F.kp, b⟩⟩

theorem cal_turned_about (X : K.In h) (G : h.Ns mainGlobals mg) (c : He.SaysD fa fn K) (T : Txt K mg) : Cal P w K mg base "turned_about" 1 ["row"] (sp_turned_about K) := by
  obtain ⟨fd, F⟩ := c.def_ 28 (d := dturned_about) rfl
  have b : Binds K fd ["row"] [] := F.bindsN fun _ _ _ _ _ _ us hl => match us, hl with | [_], _ => rfl
  exact ⟨⟨_, _, He.glo_ok X G (c.fact 25 (f := .glo "turned_about") rfl), (ok_turned_about T F ), F.kp, b⟩⟩

theorem cal_fall (X : K.In h) (G : h.Ns mainGlobals mg) (c : He.SaysD fa fn K) (T : Txt K mg) : Cal P w K mg base "fall" 3 ["thing", "mode", "measure", "step"] (sp_fall K) := by
  obtain ⟨fd, F⟩ := c.def_ 29 (d := dfall) rfl
  have b : Binds K fd ["thing", "mode", "measure", "step"] [] := F.bindsN fun _ _ _ _ _ _ us hl => match us, hl with | [_, _, _, _], _ => rfl
  exact ⟨⟨_, _, He.glo_ok X G (c.fact 26 (f := .glo "fall") rfl), (ok_fall T F (cal_reach X G c T)), F.kp, b⟩⟩

theorem cal_Falls_init (X : K.In h) (G : h.Ns mainGlobals mg) (c : He.SaysD fa fn K) (T : Txt K mg) : CalI P w K mg base "Falls" (cFalls K) 22 ["self", "room", "starts", "steps", "measure", "step", "top", "falls", "floors", "tops"] (sp_Falls_init K) := by
  obtain ⟨fd, F⟩ := c.def_ 30 (d := dFalls_init) rfl
  have b : Binds K fd ["self", "room", "starts", "steps", "measure", "step", "top", "falls", "floors", "tops"] [] := F.bindsN fun _ _ _ _ _ _ us hl => match us, hl with | [_, _, _, _, _, _, _, _, _, _], _ => rfl
  exact ⟨⟨_, _, He.mkr_ok (c.fact 94 (f := .mkr "Falls") rfl), He.glo_ok X G (c.fact 27 (f := .glo "Falls") rfl), (ok_Falls_init T F (cal_kept X G c T)), b⟩⟩

theorem cal_Falls_falls_by (X : K.In h) (G : h.Ns mainGlobals mg) (c : He.SaysD fa fn K) (T : Txt K mg) : CalM P w K mg base (cFalls K) "falls_by" 4 ["self", "thing", "mode", "goal", "some"] (sp_Falls_falls_by K) := by
  obtain ⟨fd, F⟩ := c.def_ 31 (d := dFalls_falls_by) rfl
  have b : Binds K fd ["self", "thing", "mode", "goal", "some"] [] := F.bindsN fun _ _ _ _ _ _ us hl => match us, hl with | [_, _, _, _, _], _ => rfl
  exact ⟨⟨_, _, He.cls_ok (c.fact 93 (f := .cls "Falls") rfl), He.meth_ok (c.fact 104 (f := .meth "Falls" "falls_by") rfl), (ok_Falls_falls_by T F (cal_shows X G c T) (cal_turned_about X G c T) (cal_standing X G c T) (cal_fall X G c T) (cal_is_part X G c T)), b⟩⟩

theorem cal_Falls_is_high (X : K.In h) (G : h.Ns mainGlobals mg) (c : He.SaysD fa fn K) (T : Txt K mg) : CalM P w K mg base (cFalls K) "is_high" 4 ["self", "claim"] (sp_Falls_is_high K) := by
  obtain ⟨fd, F⟩ := c.def_ 32 (d := dFalls_is_high) rfl
  have b : Binds K fd ["self", "claim"] [] := F.bindsN fun _ _ _ _ _ _ us hl => match us, hl with | [_, _], _ => rfl
  exact ⟨⟨_, _, He.cls_ok (c.fact 93 (f := .cls "Falls") rfl), He.meth_ok (c.fact 105 (f := .meth "Falls" "is_high") rfl), (ok_Falls_is_high T F (cal_turned_about X G c T) (cal_shows X G c T) (cal_is_part X G c T)), b⟩⟩

theorem cal_Falls_is_for (X : K.In h) (G : h.Ns mainGlobals mg) (c : He.SaysD fa fn K) (T : Txt K mg) : CalM P w K mg base (cFalls K) "is_for" 6 ["self", "thing", "claim"] (sp_Falls_is_for K) := by
  obtain ⟨fd, F⟩ := c.def_ 33 (d := dFalls_is_for) rfl
  have b : Binds K fd ["self", "thing", "claim"] [] := F.bindsN fun _ _ _ _ _ _ us hl => match us, hl with | [_, _, _], _ => rfl
  exact ⟨⟨_, _, He.cls_ok (c.fact 93 (f := .cls "Falls") rfl), He.meth_ok (c.fact 106 (f := .meth "Falls" "is_for") rfl), (ok_Falls_is_for T F (cal_Thing_modes X G c T) (cal_Falls_falls_by X G c T) (cal_is_part X G c T) (cal_Falls_is_high X G c T) (cal_steps_show X G c T) (cal_all_show X G c T) (cal_is_whole X G c T) (cal_is_row X G c T) (cal_is_room X G c T)), b⟩⟩

theorem cal_lets_by (X : K.In h) (G : h.Ns mainGlobals mg) (c : He.SaysD fa fn K) (T : Txt K mg) : Cal P w K mg base "lets_by" 7 ["thing", "claim", "paper"] (sp_lets_by K) := by
  obtain ⟨fd, F⟩ := c.def_ 34 (d := dlets_by) rfl
  have b : Binds K fd ["thing", "claim", "paper"] [] := F.bindsN fun _ _ _ _ _ _ us hl => match us, hl with | [_, _, _], _ => rfl
  exact ⟨⟨_, _, He.glo_ok X G (c.fact 28 (f := .glo "lets_by") rfl), (ok_lets_by T F (cal_Falls_is_for X G c T) (cal_check_closed X G c T)), F.kp, b⟩⟩

theorem cal__law_cell_at (X : K.In h) (G : h.Ns mainGlobals mg) (c : He.SaysD fa fn K) (T : Txt K mg) : Cal P w K mg base "_law_cell_at" 1 ["_law_script", "_law_k"] (sp__law_cell_at K) := by
  obtain ⟨fd, F⟩ := c.def_ 35 (d := d_law_cell_at) rfl
  have b : Binds K fd ["_law_script", "_law_k"] [] := F.bindsN fun _ _ _ _ _ _ us hl => match us, hl with | [_, _], _ => rfl
  exact ⟨⟨_, _, He.glo_ok X G (c.fact 29 (f := .glo "_law_cell_at") rfl), (ok__law_cell_at T F ), F.kp, b⟩⟩

theorem cal__law_stream (X : K.In h) (G : h.Ns mainGlobals mg) (c : He.SaysD fa fn K) (T : Txt K mg) : Cal P w K mg base "_law_stream" 1 ["_law_cell", "_law_many"] (sp__law_stream K) := by
  obtain ⟨fd, F⟩ := c.def_ 36 (d := d_law_stream) rfl
  have b : Binds K fd ["_law_cell", "_law_many"] [] := F.bindsN fun _ _ _ _ _ _ us hl => match us, hl with | [_, _], _ => rfl
  exact ⟨⟨_, _, He.glo_ok X G (c.fact 30 (f := .glo "_law_stream") rfl), (ok__law_stream T F ), F.kp, b⟩⟩

theorem cal__law_divisor (X : K.In h) (G : h.Ns mainGlobals mg) (c : He.SaysD fa fn K) (T : Txt K mg) : Cal P w K mg base "_law_divisor" 1 ["_law_one", "_law_other_here"] (sp__law_divisor K) := by
  obtain ⟨fd, F⟩ := c.def_ 37 (d := d_law_divisor) rfl
  have b : Binds K fd ["_law_one", "_law_other_here"] [] := F.bindsN fun _ _ _ _ _ _ us hl => match us, hl with | [_, _], _ => rfl
  exact ⟨⟨_, _, He.glo_ok X G (c.fact 31 (f := .glo "_law_divisor") rfl), (ok__law_divisor T F ), F.kp, b⟩⟩

theorem cal__law_lowest (X : K.In h) (G : h.Ns mainGlobals mg) (c : He.SaysD fa fn K) (T : Txt K mg) : Cal P w K mg base "_law_lowest" 2 ["_law_top_here", "_law_bottom"] (sp__law_lowest K) := by
  obtain ⟨fd, F⟩ := c.def_ 38 (d := d_law_lowest) rfl
  have b : Binds K fd ["_law_top_here", "_law_bottom"] [] := F.bindsN fun _ _ _ _ _ _ us hl => match us, hl with | [_, _], _ => rfl
  exact ⟨⟨_, _, He.glo_ok X G (c.fact 32 (f := .glo "_law_lowest") rfl), (ok__law_lowest T F (cal__law_divisor X G c T)), F.kp, b⟩⟩

theorem cal__law_plus (X : K.In h) (G : h.Ns mainGlobals mg) (c : He.SaysD fa fn K) (T : Txt K mg) : Cal P w K mg base "_law_plus" 3 ["_law_one", "_law_other_here"] (sp__law_plus K) := by
  obtain ⟨fd, F⟩ := c.def_ 39 (d := d_law_plus) rfl
  have b : Binds K fd ["_law_one", "_law_other_here"] [] := F.bindsN fun _ _ _ _ _ _ us hl => match us, hl with | [_, _], _ => rfl
  exact ⟨⟨_, _, He.glo_ok X G (c.fact 33 (f := .glo "_law_plus") rfl), (ok__law_plus T F (cal__law_lowest X G c T)), F.kp, b⟩⟩

theorem cal__law_along (X : K.In h) (G : h.Ns mainGlobals mg) (c : He.SaysD fa fn K) (T : Txt K mg) : Cal P w K mg base "_law_along" 4 ["_law_numbers", "_law_values"] (sp__law_along K) := by
  obtain ⟨fd, F⟩ := c.def_ 40 (d := d_law_along) rfl
  have b : Binds K fd ["_law_numbers", "_law_values"] [] := F.bindsN fun _ _ _ _ _ _ us hl => match us, hl with | [_, _], _ => rfl
  exact ⟨⟨_, _, He.glo_ok X G (c.fact 34 (f := .glo "_law_along") rfl), (ok__law_along T F (cal__law_plus X G c T)), F.kp, b⟩⟩

theorem cal__law_holds (X : K.In h) (G : h.Ns mainGlobals mg) (c : He.SaysD fa fn K) (T : Txt K mg) : Cal P w K mg base "_law_holds" 5 ["_law_row", "_law_point_here"] (sp__law_holds K) := by
  obtain ⟨fd, F⟩ := c.def_ 41 (d := d_law_holds) rfl
  have b : Binds K fd ["_law_row", "_law_point_here"] [] := F.bindsN fun _ _ _ _ _ _ us hl => match us, hl with | [_, _], _ => rfl
  exact ⟨⟨_, _, He.glo_ok X G (c.fact 35 (f := .glo "_law_holds") rfl), (ok__law_holds T F (cal__law_along X G c T)), F.kp, b⟩⟩

theorem cal__law_lies (X : K.In h) (G : h.Ns mainGlobals mg) (c : He.SaysD fa fn K) (T : Txt K mg) : Cal P w K mg base "_law_lies" 6 ["_law_room", "_law_point_here"] (sp__law_lies K) := by
  obtain ⟨fd, F⟩ := c.def_ 42 (d := d_law_lies) rfl
  have b : Binds K fd ["_law_room", "_law_point_here"] [] := F.bindsN fun _ _ _ _ _ _ us hl => match us, hl with | [_, _], _ => rfl
  exact ⟨⟨_, _, He.glo_ok X G (c.fact 36 (f := .glo "_law_lies") rfl), (ok__law_lies T F (cal__law_holds X G c T)), F.kp, b⟩⟩

theorem cal__law_number (X : K.In h) (G : h.Ns mainGlobals mg) (c : He.SaysD fa fn K) (T : Txt K mg) : Cal P w K mg base "_law_number" 1 ["_law_x", "_law_far"] (sp__law_number K) := by
  obtain ⟨fd, F⟩ := c.def_ 43 (d := d_law_number) rfl
  have b : Binds K fd ["_law_x", "_law_far"] [] := F.bindsN fun _ _ _ _ _ _ us hl => match us, hl with | [_, _], _ => rfl
  exact ⟨⟨_, _, He.glo_ok X G (c.fact 37 (f := .glo "_law_number") rfl), (ok__law_number T F ), F.kp, b⟩⟩

theorem cal__law_made (X : K.In h) (G : h.Ns mainGlobals mg) (c : He.SaysD fa fn K) (T : Txt K mg) : Cal P w K mg base "_law_made" 7 ["_law_spec"] (sp__law_made K) := by
  obtain ⟨fd, F⟩ := c.def_ 44 (d := d_law_made) rfl
  have b : Binds K fd ["_law_spec"] [] := F.bindsN fun _ _ _ _ _ _ us hl => match us, hl with | [_], _ => rfl
  exact ⟨⟨_, _, He.glo_ok X G (c.fact 38 (f := .glo "_law_made") rfl), (ok__law_made T F (cal_Thing_init X G c T) (cal_Mode_init X G c T)), F.kp, b⟩⟩

theorem cal__law_box (X : K.In h) (G : h.Ns mainGlobals mg) (c : He.SaysD fa fn K) (T : Txt K mg) : Cal P w K mg base "_law_box" 2 ["_law_cell", "_law_many", "_law_unit"] (sp__law_box K) := by
  obtain ⟨fd, F⟩ := c.def_ 45 (d := d_law_box) rfl
  have b : Binds K fd ["_law_cell", "_law_many", "_law_unit"] [] := F.bindsN fun _ _ _ _ _ _ us hl => match us, hl with | [_, _, _], _ => rfl
  exact ⟨⟨_, _, He.glo_ok X G (c.fact 39 (f := .glo "_law_box") rfl), (ok__law_box T F (cal__law_number X G c T) (cal__law_stream X G c T)), F.kp, b⟩⟩

theorem cal__law_rows (X : K.In h) (G : h.Ns mainGlobals mg) (c : He.SaysD fa fn K) (T : Txt K mg) : Cal P w K mg base "_law_rows" 1 ["_law_box_here"] (sp__law_rows K) := by
  obtain ⟨fd, F⟩ := c.def_ 46 (d := d_law_rows) rfl
  have b : Binds K fd ["_law_box_here"] [] := F.bindsN fun _ _ _ _ _ _ us hl => match us, hl with | [_], _ => rfl
  exact ⟨⟨_, _, He.glo_ok X G (c.fact 40 (f := .glo "_law_rows") rfl), (ok__law_rows T F ), F.kp, b⟩⟩

theorem cal__law_point (X : K.In h) (G : h.Ns mainGlobals mg) (c : He.SaysD fa fn K) (T : Txt K mg) : Cal P w K mg base "_law_point" 3 ["_law_cell", "_law_box_here"] (sp__law_point K) := by
  obtain ⟨fd, F⟩ := c.def_ 47 (d := d_law_point) rfl
  have b : Binds K fd ["_law_cell", "_law_box_here"] [] := F.bindsN fun _ _ _ _ _ _ us hl => match us, hl with | [_, _], _ => rfl
  exact ⟨⟨_, _, He.glo_ok X G (c.fact 41 (f := .glo "_law_point") rfl), (ok__law_point T F (cal__law_lowest X G c T) (cal__law_stream X G c T)), F.kp, b⟩⟩

theorem cal__law_top (X : K.In h) (G : h.Ns mainGlobals mg) (c : He.SaysD fa fn K) (T : Txt K mg) : Cal P w K mg base "_law_top" 1 ["_law_numbers", "_law_box_here"] (sp__law_top K) := by
  obtain ⟨fd, F⟩ := c.def_ 48 (d := d_law_top) rfl
  have b : Binds K fd ["_law_numbers", "_law_box_here"] [] := F.bindsN fun _ _ _ _ _ _ us hl => match us, hl with | [_, _], _ => rfl
  exact ⟨⟨_, _, He.glo_ok X G (c.fact 42 (f := .glo "_law_top") rfl), (ok__law_top T F ), F.kp, b⟩⟩

theorem cal__law_both (X : K.In h) (G : h.Ns mainGlobals mg) (c : He.SaysD fa fn K) (T : Txt K mg) : Cal P w K mg base "_law_both" 1 ["_law_numbers"] (sp__law_both K) := by
  obtain ⟨fd, F⟩ := c.def_ 49 (d := d_law_both) rfl
  have b : Binds K fd ["_law_numbers"] [] := F.bindsN fun _ _ _ _ _ _ us hl => match us, hl with | [_], _ => rfl
  exact ⟨⟨_, _, He.glo_ok X G (c.fact 43 (f := .glo "_law_both") rfl), (ok__law_both T F ), F.kp, b⟩⟩

theorem cal__law_drift_mode (X : K.In h) (G : h.Ns mainGlobals mg) (c : He.SaysD fa fn K) (T : Txt K mg) : Cal P w K mg base "_law_drift_mode" 2 ["_law_xs", "_law_goal", "_law_pushes", "_law_often", "_law_step"] (sp__law_drift_mode K) := by
  obtain ⟨fd, F⟩ := c.def_ 51 (d := d_law_drift_mode) rfl
  have b : Binds K fd ["_law_xs", "_law_goal", "_law_pushes", "_law_often", "_law_step"] [] := F.bindsN fun _ _ _ _ _ _ us hl => match us, hl with | [_, _, _, _, _], _ => rfl
  exact ⟨⟨_, _, He.glo_ok X G (c.fact 45 (f := .glo "_law_drift_mode") rfl), (ok__law_drift_mode T F (cal__law_number X G c T)), F.kp, b⟩⟩

theorem cal__law_drift (X : K.In h) (G : h.Ns mainGlobals mg) (c : He.SaysD fa fn K) (T : Txt K mg) : Cal P w K mg base "_law_drift" 3 ["_law_script"] (sp__law_drift K) := by
  obtain ⟨fd, F⟩ := c.def_ 50 (d := d_law_drift) rfl
  have b : Binds K fd ["_law_script"] [] := F.bindsN fun _ _ _ _ _ _ us hl => match us, hl with | [_], _ => rfl
  exact ⟨⟨_, _, He.glo_ok X G (c.fact 44 (f := .glo "_law_drift") rfl), (ok__law_drift T F (cal__law_drift_mode X G c T) (cal__law_number X G c T) (cal__law_cell_at X G c T) (cal__law_stream X G c T)), F.kp, b⟩⟩

theorem cal__law_pushed (X : K.In h) (G : h.Ns mainGlobals mg) (c : He.SaysD fa fn K) (T : Txt K mg) : Cal P w K mg base "_law_pushed" 2 ["_law_spec", "_law_mode", "_law_numbers"] (sp__law_pushed K) := by
  obtain ⟨fd, F⟩ := c.def_ 52 (d := d_law_pushed) rfl
  have b : Binds K fd ["_law_spec", "_law_mode", "_law_numbers"] [] := F.bindsN fun _ _ _ _ _ _ us hl => match us, hl with | [_, _, _], _ => rfl
  exact ⟨⟨_, _, He.glo_ok X G (c.fact 46 (f := .glo "_law_pushed") rfl), (ok__law_pushed T F (cal__law_both X G c T)), F.kp, b⟩⟩

theorem cal__law_falling (X : K.In h) (G : h.Ns mainGlobals mg) (c : He.SaysD fa fn K) (T : Txt K mg) : Cal P w K mg base "_law_falling" 3 ["_law_spec", "_law_goal", "_law_often", "_law_step", "_law_cell"] (sp__law_falling K) := by
  obtain ⟨fd, F⟩ := c.def_ 53 (d := d_law_falling) rfl
  have b : Binds K fd ["_law_spec", "_law_goal", "_law_often", "_law_step", "_law_cell"] [] := F.bindsN fun _ _ _ _ _ _ us hl => match us, hl with | [_, _, _, _, _], _ => rfl
  exact ⟨⟨_, _, He.glo_ok X G (c.fact 47 (f := .glo "_law_falling") rfl), (ok__law_falling T F (cal__law_top X G c T) (cal__law_number X G c T) (cal__law_box X G c T) (cal__law_stream X G c T)), F.kp, b⟩⟩

theorem cal__law_fall_parts (X : K.In h) (G : h.Ns mainGlobals mg) (c : He.SaysD fa fn K) (T : Txt K mg) : Cal P w K mg base "_law_fall_parts" 3 ["_law_spec", "_law_goal", "_law_often", "_law_step", "_law_told"] (sp__law_fall_parts K) := by
  obtain ⟨fd, F⟩ := c.def_ 54 (d := d_law_fall_parts) rfl
  have b : Binds K fd ["_law_spec", "_law_goal", "_law_often", "_law_step", "_law_told"] [] := F.bindsN fun _ _ _ _ _ _ us hl => match us, hl with | [_, _, _, _, _], _ => rfl
  exact ⟨⟨_, _, He.glo_ok X G (c.fact 48 (f := .glo "_law_fall_parts") rfl), (ok__law_fall_parts T F (cal__law_both X G c T) (cal__law_pushed X G c T)), F.kp, b⟩⟩

theorem cal__law_behind (X : K.In h) (G : h.Ns mainGlobals mg) (c : He.SaysD fa fn K) (T : Txt K mg) : Cal P w K mg base "_law_behind" 5 ["_law_mode", "_law_point_here", "_law_steering", "_law_pushes"] (sp__law_behind K) := by
  obtain ⟨fd, F⟩ := c.def_ 55 (d := d_law_behind) rfl
  have b : Binds K fd ["_law_mode", "_law_point_here", "_law_steering", "_law_pushes"] [] := F.bindsN fun _ _ _ _ _ _ us hl => match us, hl with | [_, _, _, _], _ => rfl
  exact ⟨⟨_, _, He.glo_ok X G (c.fact 49 (f := .glo "_law_behind") rfl), (ok__law_behind T F (cal__law_lowest X G c T) (cal__law_along X G c T) (cal__law_plus X G c T)), F.kp, b⟩⟩

theorem cal__law_run (X : K.In h) (G : h.Ns mainGlobals mg) (c : He.SaysD fa fn K) (T : Txt K mg) : Cal P w K mg base "_law_run" 7 ["_law_spec", "_law_point_here", "_law_cells"] (sp__law_run K) := by
  obtain ⟨fd, F⟩ := c.def_ 56 (d := d_law_run) rfl
  have b : Binds K fd ["_law_spec", "_law_point_here", "_law_cells"] [] := F.bindsN fun _ _ _ _ _ _ us hl => match us, hl with | [_, _, _], _ => rfl
  exact ⟨⟨_, _, He.glo_ok X G (c.fact 50 (f := .glo "_law_run") rfl), (ok__law_run T F (cal__law_behind X G c T) (cal__law_point X G c T) (cal__law_lies X G c T)), F.kp, b⟩⟩

theorem cal__law_other (X : K.In h) (G : h.Ns mainGlobals mg) (c : He.SaysD fa fn K) (T : Txt K mg) : Cal P w K mg base "_law_other" 1 ["_law_shares", "_law_cell"] (sp__law_other K) := by
  obtain ⟨fd, F⟩ := c.def_ 57 (d := d_law_other) rfl
  have b : Binds K fd ["_law_shares", "_law_cell"] [] := F.bindsN fun _ _ _ _ _ _ us hl => match us, hl with | [_, _], _ => rfl
  exact ⟨⟨_, _, He.glo_ok X G (c.fact 51 (f := .glo "_law_other") rfl), (ok__law_other T F ), F.kp, b⟩⟩

theorem cal__law_changed (X : K.In h) (G : h.Ns mainGlobals mg) (c : He.SaysD fa fn K) (T : Txt K mg) : Cal P w K mg base "_law_changed" 21 ["_law_some", "_law_cell"] (sp__law_changed K 21) := by
  obtain ⟨fd, F⟩ := c.def_ 58 (d := d_law_changed) rfl
  have b : Binds K fd ["_law_some", "_law_cell"] [] := F.bindsN fun _ _ _ _ _ _ us hl => match us, hl with | [_, _], _ => rfl
  have all : ∀ n : Nat, FnOk P w K mg base CX0 (n + 1) (He.fAd K d_law_changed.at_) fd ["_law_some", "_law_cell"] (sp__law_changed K (n + 1)) := fun n => by
    induction n with
    | zero =>
      have no : ∀ vs H Q E, ¬ sp__law_changed K 1 vs H Q E := fun vs H Q E h => by
        obtain ⟨a, g, _, _, ⟨h1, h2⟩, _⟩ := h
        have e : a.2.2 = 0 := by omega
        rw [e] at h2
        exact h2
      exact ⟨fun vs H Q E h => absurd h (no vs H Q E), fun A outer s H args us vs Q E _ _ _ _ h => absurd h (no vs H Q E)⟩
    | succ n ih => exact ok__law_changed T F ⟨⟨_, _, (He.glo_ok X G (c.fact 52 (f := .glo "_law_changed") rfl)), ih, F.kp, b⟩⟩ (cal__law_other X G c T) (by omega)
  exact ⟨⟨_, _, (He.glo_ok X G (c.fact 52 (f := .glo "_law_changed") rfl)), all 20, F.kp, b⟩⟩

theorem cal__law_spoilt (X : K.In h) (G : h.Ns mainGlobals mg) (c : He.SaysD fa fn K) (T : Txt K mg) : Cal P w K mg base "_law_spoilt" 22 ["_law_parts", "_law_cell"] (sp__law_spoilt K) := by
  obtain ⟨fd, F⟩ := c.def_ 59 (d := d_law_spoilt) rfl
  have b : Binds K fd ["_law_parts", "_law_cell"] [] := F.bindsN fun _ _ _ _ _ _ us hl => match us, hl with | [_, _], _ => rfl
  exact ⟨⟨_, _, He.glo_ok X G (c.fact 53 (f := .glo "_law_spoilt") rfl), (ok__law_spoilt T F (cal__law_changed X G c T)), F.kp, b⟩⟩

theorem facts {f : Addr} (X : K.In h) (G : h.Ns mainGlobals mg) (c : He.SaysD fa fn K) (cx : ex K = true) (hfa : mg ("law" : Str) = some (.ref f)) :
    ∃ fd : FuncData, (∀ (s : Shared) (v : Value), BindsTo s fd ⟨[v], []⟩ [("_law_script", v)]) ∧ ∀ base : Heap, K.In base → base.Ns mainGlobals mg → FnOk P w K mg base CX0 24 f fd ["_law_script"] (sp_law K) := by
  have T := txt_of X G c cx
  obtain ⟨fd, F⟩ := c.def_ 60 (d := dlaw) rfl
  have e := hfa.symm.trans (He.glo_ok X G (c.fact 54 (f := .glo "law") rfl))
  cases e
  have b := FunD.bindsA (ps := ["_law_script"]) F fun _ _ _ _ _ _ us hl => match us, hl with | [_], _ => rfl
  exact ⟨fd, fun s v => b s [v] rfl, fun base _ _ => ok_law T F (cal__law_lies X G c T) (cal__law_cell_at X G c T) (cal__law_point X G c T) (cal__law_run X G c T) (cal__law_rows X G c T) (cal_Comes_init X G c T) (cal__law_made X G c T) (cal_lets_by X G c T) (cal_Falls_init X G c T) (cal__law_fall_parts X G c T) (cal__law_spoilt X G c T) (cal__law_falling X G c T) (cal__law_drift X G c T)⟩
end
end Tx
end
section
set_option Elab.async false
set_option linter.all false
set_option maxRecDepth 100000
set_option maxHeartbeats 0
namespace Tx
open PySem PySem.Spec PyProof.Rows L2
theorem run (w : World) : HandSHeadRun.RunEq R (PySem.W.view R.prog [72]) hk ob 30000 loose w := by
  intro os
  kernel_rfl
end Tx
open PySem PySem.W PySem.Calls PyProof.Rows
theorem PySem.Challenge.cw_steadyhand_k54_whole_papers_of_falls_hol_holds : PySem.Challenge.rw_steadyhand_k54_whole_papers_of_falls_hol.Holds := by
  w_on; o_law
  refine HandSHeadRun.head_any (r := OpenLaw.row PySem.Challenge.rw_steadyhand_k54_whole_papers_of_falls_hol) (q := view (OpenLaw.row PySem.Challenge.rw_steadyhand_k54_whole_papers_of_falls_hol).prog [72]) (H := Tx.hk) (ob := Tx.ob) (M := 30000) (loose := Tx.loose) (d := HandSHeadRun.topDef (OpenLaw.row PySem.Challenge.rw_steadyhand_k54_whole_papers_of_falls_hol).prog 72) (kwd := []) Tx.ob_eq
    (by kernel_rfl) (fun s => by kernel_rfl) Tx.run (by kernel_rfl) (by kernel_rfl) (by kernel_rfl) (by rfl) (by first | assumption | decide +kernel) (by decide +kernel) ⟨rfl, rfl, rfl, rfl, rfl, by decide +kernel⟩ ?hw ?hc
  case hw => w_witness2
  case hc =>
    refine L2.walk_ofE (l := PySem.Challenge.rw_steadyhand_k54_whole_papers_of_falls_hol) (n := 63) (k := 24) (x := "_law_script") (CX := L2.CX0) rfl (by decide) (by kernel_rfl) ⟨rfl, by decide, by decide⟩ ?F (fun _ _ _ _ z => z)
    intro w mg fa h Y G hmg0
    obtain ⟨K, KX, c, cx⟩ := Y
    have hmg : mg ("law" : PySem.Str) = some (.ref fa) := by
      have e : (HandSHeadRun.topDef (OpenLaw.row PySem.Challenge.rw_steadyhand_k54_whole_papers_of_falls_hol).prog 72).name = ("law" : PySem.Str) := by kernel_rfl
      rw [← e]
      exact hmg0
    obtain ⟨fd, hb, hF⟩ := Tx.facts (P := (PySem.Challenge.rw_steadyhand_k54_whole_papers_of_falls_hol).prog) (w := w) KX G c cx hmg
    exact ⟨K, fd, Tx.sp_law K, KX, hb, fun H a ns hl _ hS => ⟨ns, H, L2.Same.refl _, Kt.DTs.cons' (Kt.dt_scr.mpr ⟨a, rfl, hS⟩) Kt.DTs.nil', trivial, fun v G' H' d _ t e => by
      have e : d = Kt.D.bl true := e
      subst e
      exact Kt.dt_bl.mp t⟩, hF⟩
end
