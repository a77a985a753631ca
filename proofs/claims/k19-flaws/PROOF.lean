import PyProof.Rows.All
import Wide.All
import OpenK.AllK
import Wide.FinOn
import KE.KStateDown
import HandS.Head2
import HandS.HeadEnd
import HandS.Words
import HandS.HeadHook4
import Lean
import HandS.ForMost
import HandS.TupAny
import HandS.TupMul
import HandS.Conv
import HandS.Walk
import HandS.Deep
import HandS.IsInst
import HandS.Wide
import HandS.Defaults
import HandS.Zip
import HandS.More
import HandS.Style
import KE.GoesMore
import KE.GoesEnum
import PyProof.ReprRoads
import PyProof.ReprLen
import PyProof.StrLawsRepr
import HandS.RaiseMore
import KE.BitLaws
import PySem.Challenge.RW_suresieves_k19_whole_flaws_and_bounds
set_option Elab.async false
set_option linter.all false
set_option maxRecDepth 100000
set_option maxHeartbeats 4000000
set_option maxHeartbeats 0
namespace K19
open PySem PySem.Spec PyProof.Rows L2
def top (i : Nat) : Stmt := PySem.Challenge.pw_suresieves_k19_whole_flaws_and_bounds.main.body.getD i (.Pass ⟨0, 0, 0, 0⟩)
abbrev sIsWhole : Stmt := top 9
abbrev sIsBetween : Stmt := top 10
abbrev sFieldsBy : Stmt := top 16
abbrev sIsField : Stmt := top 17
abbrev sIsRowBy : Stmt := top 18
abbrev sWrongInSieve : Stmt := top 19
abbrev sCheckSieve : Stmt := top 21
abbrev sAimOf : Stmt := top 23
abbrev sLoopsBy : Stmt := top 24
abbrev sDoCross : Stmt := top 25
abbrev sBackFlaw : Stmt := top 26
abbrev sFlawOf : Stmt := top 27
abbrev sFlawsBy : Stmt := top 28
abbrev sTimesOf : Stmt := top 29
abbrev sBoundBy : Stmt := top 30
abbrev sFlaws : Stmt := top 32
abbrev sStepsBound : Stmt := top 33
abbrev sLWell : Stmt := top 35
abbrev sLDraw : Stmt := top 36
abbrev sLPick : Stmt := top 37
abbrev sLPlain : Stmt := top 38
abbrev sLPut : Stmt := top 39
abbrev sLOps : Stmt := top 40
abbrev sLTableOf : Stmt := top 41
abbrev sLIsServed : Stmt := top 42
abbrev sLLoop : Stmt := top 43
abbrev sLAgains : Stmt := top 44
abbrev sLIsCrossed : Stmt := top 45
abbrev sLFlaw : Stmt := top 46
abbrev sLFlaws : Stmt := top 47
abbrev sLBound : Stmt := top 48
abbrev sLHolds : Stmt := top 49
abbrev sLFault : Stmt := top 50
abbrev sLFound : Stmt := top 51
abbrev sLTablesBehind : Stmt := top 52
abbrev sLGoing : Stmt := top 53
abbrev sLStep : Stmt := top 54
abbrev sLBegun : Stmt := top 55
abbrev sLWords : Stmt := top 56
abbrev sLBytes : Stmt := top 57
abbrev sLCells : Stmt := top 58
abbrev sLKinds : Stmt := top 59
abbrev sLGrant : Stmt := top 60
abbrev sLFitting : Stmt := top 61
abbrev sLGuarded : Stmt := top 62
abbrev sLMasked : Stmt := top 63
abbrev sLBelow : Stmt := top 64
abbrev sLOnCells : Stmt := top 65
abbrev sLOnPairs : Stmt := top 66
abbrev sLSomeRows : Stmt := top 67
abbrev sLPiece : Stmt := top 68
abbrev sLSieve : Stmt := top 69
abbrev sLPutIn : Stmt := top 70
abbrev sLRight : Stmt := top 71
abbrev sLaw : Stmt := top 72
def dIsWhole : He.DefD := ⟨("is_whole", none), "is_whole", "is_whole", defArgs sIsWhole, defBody sIsWhole, defScope sIsWhole, [], []⟩
def dIsBetween : He.DefD := ⟨("is_between", none), "is_between", "is_between", defArgs sIsBetween, defBody sIsBetween, defScope sIsBetween, [], []⟩
def dFieldsBy : He.DefD := ⟨("fields_by", none), "fields_by", "fields_by", defArgs sFieldsBy, defBody sFieldsBy, defScope sFieldsBy, [], []⟩
def dIsField : He.DefD := ⟨("is_field", none), "is_field", "is_field", defArgs sIsField, defBody sIsField, defScope sIsField, [], []⟩
def dIsRowBy : He.DefD := ⟨("is_row_by", none), "is_row_by", "is_row_by", defArgs sIsRowBy, defBody sIsRowBy, defScope sIsRowBy, [], []⟩
def dWrongInSieve : He.DefD := ⟨("wrong_in_sieve", none), "wrong_in_sieve", "wrong_in_sieve", defArgs sWrongInSieve, defBody sWrongInSieve, defScope sWrongInSieve, [], []⟩
def dCheckSieve : He.DefD := ⟨("check_sieve", none), "check_sieve", "check_sieve", defArgs sCheckSieve, defBody sCheckSieve, defScope sCheckSieve, [], []⟩
def dAimOf : He.DefD := ⟨("aim_of", none), "aim_of", "aim_of", defArgs sAimOf, defBody sAimOf, defScope sAimOf, [], []⟩
def dLoopsBy : He.DefD := ⟨("loops_by", none), "loops_by", "loops_by", defArgs sLoopsBy, defBody sLoopsBy, defScope sLoopsBy, [], []⟩
def dDoCross : He.DefD := ⟨("do_cross", none), "do_cross", "do_cross", defArgs sDoCross, defBody sDoCross, defScope sDoCross, [], []⟩
def dBackFlaw : He.DefD := ⟨("back_flaw", none), "back_flaw", "back_flaw", defArgs sBackFlaw, defBody sBackFlaw, defScope sBackFlaw, [], []⟩
def dFlawOf : He.DefD := ⟨("flaw_of", none), "flaw_of", "flaw_of", defArgs sFlawOf, defBody sFlawOf, defScope sFlawOf, [], []⟩
def dFlawsBy : He.DefD := ⟨("flaws_by", none), "flaws_by", "flaws_by", defArgs sFlawsBy, defBody sFlawsBy, defScope sFlawsBy, [], []⟩
def dTimesOf : He.DefD := ⟨("times_of", none), "times_of", "times_of", defArgs sTimesOf, defBody sTimesOf, defScope sTimesOf, [], []⟩
def dBoundBy : He.DefD := ⟨("bound_by", none), "bound_by", "bound_by", defArgs sBoundBy, defBody sBoundBy, defScope sBoundBy, [], []⟩
def dFlaws : He.DefD := ⟨("flaws", none), "flaws", "flaws", defArgs sFlaws, defBody sFlaws, defScope sFlaws, [], []⟩
def dStepsBound : He.DefD := ⟨("steps_bound", none), "steps_bound", "steps_bound", defArgs sStepsBound, defBody sStepsBound, defScope sStepsBound, [], []⟩
def dLWell : He.DefD := ⟨("_law_well", none), "_law_well", "_law_well", defArgs sLWell, defBody sLWell, defScope sLWell, [], []⟩
def dLDraw : He.DefD := ⟨("_law_draw", none), "_law_draw", "_law_draw", defArgs sLDraw, defBody sLDraw, defScope sLDraw, [], []⟩
def dLPick : He.DefD := ⟨("_law_pick", none), "_law_pick", "_law_pick", defArgs sLPick, defBody sLPick, defScope sLPick, [], []⟩
def dLPlain : He.DefD := ⟨("_law_plain", none), "_law_plain", "_law_plain", defArgs sLPlain, defBody sLPlain, defScope sLPlain, [], []⟩
def dLPut : He.DefD := ⟨("_law_put", none), "_law_put", "_law_put", defArgs sLPut, defBody sLPut, defScope sLPut, [], []⟩
def dLOps : He.DefD := ⟨("_law_ops", none), "_law_ops", "_law_ops", defArgs sLOps, defBody sLOps, defScope sLOps, [], []⟩
def dLTableOf : He.DefD := ⟨("_law_table_of", none), "_law_table_of", "_law_table_of", defArgs sLTableOf, defBody sLTableOf, defScope sLTableOf, [], []⟩
def dLIsServed : He.DefD := ⟨("_law_is_served", none), "_law_is_served", "_law_is_served", defArgs sLIsServed, defBody sLIsServed, defScope sLIsServed, [], []⟩
def dLLoop : He.DefD := ⟨("_law_loop", none), "_law_loop", "_law_loop", defArgs sLLoop, defBody sLLoop, defScope sLLoop, [], []⟩
def dLAgains : He.DefD := ⟨("_law_agains", none), "_law_agains", "_law_agains", defArgs sLAgains, defBody sLAgains, defScope sLAgains, [], []⟩
def dLIsCrossed : He.DefD := ⟨("_law_is_crossed", none), "_law_is_crossed", "_law_is_crossed", defArgs sLIsCrossed, defBody sLIsCrossed, defScope sLIsCrossed, [], []⟩
def dLFlaw : He.DefD := ⟨("_law_flaw", none), "_law_flaw", "_law_flaw", defArgs sLFlaw, defBody sLFlaw, defScope sLFlaw, [], []⟩
def dLFlaws : He.DefD := ⟨("_law_flaws", none), "_law_flaws", "_law_flaws", defArgs sLFlaws, defBody sLFlaws, defScope sLFlaws, [], []⟩
def dLBound : He.DefD := ⟨("_law_bound", none), "_law_bound", "_law_bound", defArgs sLBound, defBody sLBound, defScope sLBound, [], []⟩
def dLHolds : He.DefD := ⟨("_law_holds", none), "_law_holds", "_law_holds", defArgs sLHolds, defBody sLHolds, defScope sLHolds, [], []⟩
def dLFault : He.DefD := ⟨("_law_fault", none), "_law_fault", "_law_fault", defArgs sLFault, defBody sLFault, defScope sLFault, [], []⟩
def dLFound : He.DefD := ⟨("_law_found", none), "_law_found", "_law_found", defArgs sLFound, defBody sLFound, defScope sLFound, [], []⟩
def dLTablesBehind : He.DefD := ⟨("_law_tables_behind", none), "_law_tables_behind", "_law_tables_behind", defArgs sLTablesBehind, defBody sLTablesBehind, defScope sLTablesBehind, [], []⟩
def dLGoing : He.DefD := ⟨("_law_going", none), "_law_going", "_law_going", defArgs sLGoing, defBody sLGoing, defScope sLGoing, [], []⟩
def dLStep : He.DefD := ⟨("_law_step", none), "_law_step", "_law_step", defArgs sLStep, defBody sLStep, defScope sLStep, [], []⟩
def dLBegun : He.DefD := ⟨("_law_begun", none), "_law_begun", "_law_begun", defArgs sLBegun, defBody sLBegun, defScope sLBegun, [], []⟩
def dLWords : He.DefD := ⟨("_law_words", none), "_law_words", "_law_words", defArgs sLWords, defBody sLWords, defScope sLWords, [], []⟩
def dLBytes : He.DefD := ⟨("_law_bytes", none), "_law_bytes", "_law_bytes", defArgs sLBytes, defBody sLBytes, defScope sLBytes, [], []⟩
def dLCells : He.DefD := ⟨("_law_cells", none), "_law_cells", "_law_cells", defArgs sLCells, defBody sLCells, defScope sLCells, [], []⟩
def dLKinds : He.DefD := ⟨("_law_kinds", none), "_law_kinds", "_law_kinds", defArgs sLKinds, defBody sLKinds, defScope sLKinds, [], []⟩
def dLGrant : He.DefD := ⟨("_law_grant", none), "_law_grant", "_law_grant", defArgs sLGrant, defBody sLGrant, defScope sLGrant, [], []⟩
def dLFitting : He.DefD := ⟨("_law_fitting", none), "_law_fitting", "_law_fitting", defArgs sLFitting, defBody sLFitting, defScope sLFitting, [], []⟩
def dLGuarded : He.DefD := ⟨("_law_guarded", none), "_law_guarded", "_law_guarded", defArgs sLGuarded, defBody sLGuarded, defScope sLGuarded, [], []⟩
def dLMasked : He.DefD := ⟨("_law_masked", none), "_law_masked", "_law_masked", defArgs sLMasked, defBody sLMasked, defScope sLMasked, [], []⟩
def dLBelow : He.DefD := ⟨("_law_below", none), "_law_below", "_law_below", defArgs sLBelow, defBody sLBelow, defScope sLBelow, [], []⟩
def dLOnCells : He.DefD := ⟨("_law_on_cells", none), "_law_on_cells", "_law_on_cells", defArgs sLOnCells, defBody sLOnCells, defScope sLOnCells, [], []⟩
def dLOnPairs : He.DefD := ⟨("_law_on_pairs", none), "_law_on_pairs", "_law_on_pairs", defArgs sLOnPairs, defBody sLOnPairs, defScope sLOnPairs, [], []⟩
def dLSomeRows : He.DefD := ⟨("_law_some_rows", none), "_law_some_rows", "_law_some_rows", defArgs sLSomeRows, defBody sLSomeRows, defScope sLSomeRows, [], []⟩
def dLPiece : He.DefD := ⟨("_law_piece", none), "_law_piece", "_law_piece", defArgs sLPiece, defBody sLPiece, defScope sLPiece, [], []⟩
def dLSieve : He.DefD := ⟨("_law_sieve", none), "_law_sieve", "_law_sieve", defArgs sLSieve, defBody sLSieve, defScope sLSieve, [], []⟩
def dLPutIn : He.DefD := ⟨("_law_put_in", none), "_law_put_in", "_law_put_in", defArgs sLPutIn, defBody sLPutIn, defScope sLPutIn, [], []⟩
def dLRight : He.DefD := ⟨("_law_right", none), "_law_right", "_law_right", defArgs sLRight, defBody sLRight, defScope sLRight, [], []⟩
def dLaw : He.DefD := ⟨("law", none), "law", "law", defArgs sLaw, defBody sLaw, defScope sLaw, [], []⟩
def fn : List He.DefD := [dIsWhole, dIsBetween, dFieldsBy, dIsField, dIsRowBy, dWrongInSieve, dCheckSieve, dAimOf, dLoopsBy, dDoCross, dBackFlaw, dFlawOf, dFlawsBy, dTimesOf, dBoundBy, dFlaws, dStepsBound, dLWell, dLDraw, dLPick, dLPlain, dLPut, dLOps, dLTableOf, dLIsServed, dLLoop, dLAgains, dLIsCrossed, dLFlaw, dLFlaws, dLBound, dLHolds, dLFault, dLFound, dLTablesBehind, dLGoing, dLStep, dLBegun, dLWords, dLBytes, dLCells, dLKinds, dLGrant, dLFitting, dLGuarded, dLMasked, dLBelow, dLOnCells, dLOnPairs, dLSomeRows, dLPiece, dLSieve, dLPutIn, dLRight, dLaw]
def fa : List He.Fa := [.glo "is_whole", .glo "is_between", .glo "fields_by", .glo "is_field", .glo "is_row_by", .glo "wrong_in_sieve", .glo "check_sieve", .glo "aim_of", .glo "loops_by", .glo "do_cross", .glo "back_flaw", .glo "flaw_of", .glo "flaws_by", .glo "times_of", .glo "bound_by", .glo "flaws", .glo "steps_bound", .glo "_law_well", .glo "_law_draw", .glo "_law_pick", .glo "_law_plain", .glo "_law_put", .glo "_law_ops", .glo "_law_table_of", .glo "_law_is_served", .glo "_law_loop", .glo "_law_agains", .glo "_law_is_crossed", .glo "_law_flaw", .glo "_law_flaws", .glo "_law_bound", .glo "_law_holds", .glo "_law_fault", .glo "_law_found", .glo "_law_tables_behind", .glo "_law_going", .glo "_law_step", .glo "_law_begun", .glo "_law_words", .glo "_law_bytes", .glo "_law_cells", .glo "_law_kinds", .glo "_law_grant", .glo "_law_fitting", .glo "_law_guarded", .glo "_law_masked", .glo "_law_below", .glo "_law_on_cells", .glo "_law_on_pairs", .glo "_law_some_rows", .glo "_law_piece", .glo "_law_sieve", .glo "_law_put_in", .glo "_law_right", .glo "law", .glo "OPS", .glo "SHIFTED", .glo "CONDITIONS", .glo "ASKED", .glo "NAMED", .glo "FIELDS", .glo "MOSTS", .int "WORD" 65536, .int "MOST_ROWS" 120, .free "abs", .free "all", .free "any", .free "bool", .free "enumerate", .free "int", .free "isinstance", .free "len", .free "list", .free "max", .free "min", .free "range", .free "repr", .free "str", .free "sum", .free "tuple", .free "zip"]
def cOPS : List He.Dv := [.str "add", .str "sub", .str "and", .str "or", .str "xor", .str "left", .str "right"]
def cSHIFTED : List He.Dv := [.str "left", .str "right"]
def cCONDITIONS : List He.Dv := [.str "same", .str "other", .str "below", .str "from", .str "bit", .str "nobit"]
def cASKED : List He.Dv := [.str "clock", .str "ones", .str "mix"]
def cNAMED : List He.Dv := [.str "addn", .str "andn", .str "orn", .str "xorn", .str "leftn", .str "rightn"]
def cFIELDS : List (Str × He.Dv) := [("set", .str "rn"), ("move", .str "rr"), ("length", .str "r"), ("take", .str "rk"), ("keep", .str "rk"), ("byte", .str "rrs"), ("pair", .str "rrs"), ("write", .str "rrs"), ("cell", .str "rtr"), ("fill", .str "rtr"), ("count", .str "tr"), ("find", .str "rtr"), ("value", .str "rtr"), ("change", .str "rtr"), ("ask", .str "rqr"), ("jump", .str "d"), ("when", .str "crrd"), ("whenn", .str "crnd"), ("begin", .str "l"), ("again", .str "lmd"), ("answer", .str "r")]
def cMOSTS : List (Str × He.Dv) := [("r", .int 7), ("n", .int 65535), ("h", .int 15), ("s", .int 255), ("k", .int 15), ("t", .int 5), ("d", .int 119), ("l", .int 3), ("m", .int 100)]
def ts : List He.Tab := [(fun K => He.ga K "FIELDS", ["set", "move", "length", "take", "keep", "byte", "pair", "write", "cell", "fill", "count", "find", "value", "change", "ask", "jump", "when", "whenn", "begin", "again", "answer"]), (fun K => He.ga K "MOSTS", ["r", "n", "h", "s", "k", "t", "d", "l", "m"])]
def exB (K : PySem.W.Frag) : Bool := He.tupB K "OPS" cOPS && He.tupB K "SHIFTED" cSHIFTED && He.tupB K "CONDITIONS" cCONDITIONS && He.tupB K "ASKED" cASKED && He.tupB K "NAMED" cNAMED && He.valsB K (He.ga K "FIELDS") cFIELDS && He.valsB K (He.ga K "MOSTS") cMOSTS
abbrev R : PySem.W.OpenRow := PySem.W.OpenLaw.row PySem.Challenge.rw_suresieves_k19_whole_flaws_and_bounds
abbrev hk : PySem.W.Hook := He.hookX 4 fa fn ts [] exB
def ob (s : PySem.W.SharedT) : He.AlX := He.obsX 4 fa fn ts [] exB (HandSHeadRun.getT s)
theorem ob_eq (s : PySem.W.SharedT) : ob s = hk.obs s.abs := He.obsX_eq (HandSHeadRun.getT_eq s)
def nm0 : List PySem.Str := ["SieveError", "InvalidSieve", "WORD", "OPS", "SHIFTED", "CONDITIONS", "ASKED", "is_whole", "is_between", "MOST_ROWS", "NAMED", "FIELDS", "MOSTS", "fields_by", "is_field", "is_row_by"]
def nm1 : List PySem.Str := ["wrong_in_sieve", "check_sieve", "aim_of", "loops_by", "do_cross", "back_flaw", "flaw_of", "flaws_by", "times_of", "bound_by", "flaws", "steps_bound", "_law_well", "_law_draw", "_law_pick", "_law_plain"]
def nm2 : List PySem.Str := ["_law_put", "_law_ops", "_law_table_of", "_law_is_served", "_law_loop", "_law_agains", "_law_is_crossed", "_law_flaw", "_law_flaws", "_law_bound", "_law_holds", "_law_fault", "_law_found", "_law_tables_behind", "_law_going", "_law_step"]
def nm3 : List PySem.Str := ["_law_begun", "_law_words", "_law_bytes", "_law_cells", "_law_kinds", "_law_grant", "_law_fitting", "_law_guarded", "_law_masked", "_law_below", "_law_on_cells", "_law_on_pairs", "_law_some_rows", "_law_piece", "_law_sieve", "_law_put_in"]
def nm4 : List PySem.Str := ["_law_right"]
def names : List PySem.Str := nm0 ++ nm1 ++ nm2 ++ nm3 ++ nm4
theorem run_false (w : World) : HandSHeadRun.RunEq R (PySem.W.view R.prog [72]) hk ob 3000 names (w.withFollow "special-get-raises" false) := by
  intro os
  kernel_rfl
theorem run_true (w : World) : HandSHeadRun.RunEq R (PySem.W.view R.prog [72]) hk ob 3000 names (w.withFollow "special-get-raises" true) := by
  intro os
  kernel_rfl
theorem run (w : World) : HandSHeadRun.RunEq R (PySem.W.view R.prog [72]) hk ob 3000 names w := PySem.W.byRow2 "special-get-raises" (P := fun w => HandSHeadRun.RunEq R (PySem.W.view R.prog [72]) hk ob 3000 names w) run_false run_true w
end K19
set_option maxHeartbeats 0
/-! The head, but for the call of law. -/
namespace K19
open PySem PySem.W PySem.Calls PyProof.Rows
theorem head_ok (call : WalkO (view R.prog [72]) names (XL (view R.prog [72]) []) hk.says R.toRowW (HandSHeadRun.topDef R.prog 72) [] fun f vs => PySem.call f vs) : PySem.Challenge.rw_suresieves_k19_whole_flaws_and_bounds.Holds := by
  w_on; o_law
  refine HandSHeadRun.head_any (r := R) (q := view R.prog [72]) (H := hk) (ob := ob) (M := 3000) (loose := names) (d := HandSHeadRun.topDef R.prog 72) (kwd := []) ob_eq
    (by kernel_rfl) (fun s => by kernel_rfl) run (by kernel_rfl) (by kernel_rfl) (by kernel_rfl) (by rfl) (by first | assumption | decide +kernel) (by decide +kernel) ⟨rfl, rfl, rfl, rfl, rfl, by decide +kernel⟩ ?hw call
  case hw => w_witness2
theorem law_args : (HandSHeadRun.topDef R.prog 72).params.defaults = [] := by kernel_rfl
theorem law_name : (HandSHeadRun.topDef R.prog 72).name = ("law" : Str) := by kernel_rfl
end K19
set_option maxHeartbeats 4000000
/-! Data in a heap that grows: PyData read off a part G of the abstract heap H; one list of three ints (the well at wa) may change. -/
namespace K19
open PySem PySem.Spec PyProof.Rows L2

abbrev St := L2.St
/-- the well stands for this datum (no other value does) -/
def wel : PyData := .dict []

/-- a constant tuple of the top stands for this -/
def kon (xs : List Str) : PyData := .dict [(.tuple (xs.map .str), .none)]
mutual
/-- data, lists and tuples tracked in G -/
inductive Dq (G : Hp) : V → PyData → Prop
  | non : Dq G .non .none
  | bl (b : Bool) : Dq G (.bl b) (.bool b)
  | int (i : Int) : Dq G (.int i) (.int i)
  | str (x : Str) : Dq G (.str x) (.str x)
  | lst {a : Addr} {xs : List V} {ds : List PyData} : G a = some (.lst xs) → DqAll G xs ds → Dq G (.ref a) (.list ds)
  | tup {a : Addr} {xs : List V} {ds : List PyData} : G a = some (.tup xs) → DqAll G xs ds → Dq G (.ref a) (.tuple ds)
inductive DqAll (G : Hp) : List V → List PyData → Prop
  | nil : DqAll G [] []
  | cons {v : V} {vs : List V} {d : PyData} {ds : List PyData} : Dq G v d → DqAll G vs ds → DqAll G (v :: vs) (d :: ds)
end

section
variable {K : PySem.W.Frag} {G H : Hp}
mutual
theorem dq_mono (e : Same G H) : ∀ (d : PyData) (v : V), Dq G v d → Dq H v d
  | .none, _, h => by cases h; exact .non
  | .bool b, _, h => by cases h; exact .bl b
  | .int i, _, h => by cases h; exact .int i
  | .str x, _, h => by cases h; exact .str x
  | .list ds, _, h => by
    cases h with
    | lst hs ha => exact .lst (e _ _ hs) (dqAll_mono e ds _ ha)
  | .tuple ds, _, h => by
    cases h with
    | tup hs ha => exact .tup (e _ _ hs) (dqAll_mono e ds _ ha)
  | .dict _, _, h => by cases h
theorem dqAll_mono (e : Same G H) : ∀ (ds : List PyData) (vs : List V), DqAll G vs ds → DqAll H vs ds
  | [], _, h => by cases h; exact .nil
  | d :: ds, _, h => by
    cases h with
    | cons h1 h2 => exact .cons (dq_mono e d _ h1) (dqAll_mono e ds _ h2)
end
mutual
theorem dp_of : ∀ (d : PyData) (v : V), Dq G v d → Dp K G v d
  | .none, _, h => by cases h; exact .non
  | .bool b, _, h => by cases h; exact .bl b
  | .int i, _, h => by cases h; exact .int i
  | .str x, _, h => by cases h; exact .str x
  | .list ds, _, h => by
    cases h with
    | lst hs ha => exact .lst (SqL.of hs) (dps_of ds _ ha)
  | .tuple ds, _, h => by
    cases h with
    | tup hs ha => exact .tup (SqT.of hs) (dps_of ds _ ha)
  | .dict _, _, h => by cases h
theorem dps_of : ∀ (ds : List PyData) (vs : List V), DqAll G vs ds → DpAll K G vs ds
  | [], _, h => by cases h; exact .nil
  | d :: ds, _, h => by
    cases h with
    | cons h1 h2 => exact .cons (dp_of d _ h1) (dps_of ds _ h2)
end
theorem dqAll_len : ∀ {vs : List V} {ds : List PyData}, DqAll G vs ds → vs.length = ds.length
  | _, _, .nil => rfl
  | _, _, .cons _ t => congrArg Nat.succ (dqAll_len t)
theorem dqAll_get : ∀ {vs : List V} {ds : List PyData} {i : Nat} {d : PyData}, DqAll G vs ds → ds[i]? = some d → ∃ v, vs[i]? = some v ∧ Dq G v d
  | _, _, _, _, .nil, e => by simp at e
  | _, _, 0, _, .cons r _, e => by simp at e; subst e; exact ⟨_, rfl, r⟩
  | _, _, i + 1, d, .cons _ t, e => by
    obtain ⟨v, h1, h2⟩ := dqAll_get (i := i) (d := d) t (by simpa using e)
    exact ⟨v, by simpa using h1, h2⟩
theorem dqAll_app : ∀ {vs ws : List V} {ds es : List PyData}, DqAll G vs ds → DqAll G ws es → DqAll G (vs ++ ws) (ds ++ es)
  | _, _, _, _, .nil, s => s
  | _, _, _, _, .cons r t, s => .cons r (dqAll_app t s)
theorem dqAll_take : ∀ {vs : List V} {ds : List PyData} (n : Nat), DqAll G vs ds → DqAll G (vs.take n) (ds.take n)
  | _, _, 0, _ => .nil
  | _, _, _ + 1, .nil => .nil
  | _, _, n + 1, .cons r t => .cons r (dqAll_take n t)
theorem dqAll_drop : ∀ {vs : List V} {ds : List PyData} (n : Nat), DqAll G vs ds → DqAll G (vs.drop n) (ds.drop n)
  | _, _, 0, r => r
  | _, _, _ + 1, .nil => .nil
  | _, _, n + 1, .cons _ t => dqAll_drop n t
end

/-- v stands for d, over G; the well's own value for wel -/
def Rp (K : PySem.W.Frag) (wa : Addr) (G : Hp) (v : V) (d : PyData) : Prop := Dq G v d ∨ (d = wel ∧ v = .ref wa) ∨ ∃ (xs : List Str) (a : Addr), d = kon xs ∧ v = .ref a ∧ ∀ H : Hp, SqT K H a (xs.map V.str)
abbrev Rps (K : PySem.W.Frag) (wa : Addr) (G : Hp) : List V → List PyData → Prop := Paired (Rp K wa G)

/-- G is of H, the well is not of G and stands in H -/
structure Wd (wa : Addr) (G H : Hp) : Prop where
  sub : Same G H
  out : G wa = none
  well : ∃ a b c : Int, H wa = some (.lst [.int a, .int b, .int c])
/-- later: G and H have grown, of H nothing but the well has changed -/
structure Le (wa : Addr) (G H G' H' : Hp) : Prop where
  wd : Wd wa G' H'
  kp : ∀ a, H a ≠ none → G' a = G a
  fr : ∀ a, a ≠ wa → H a ≠ none → H' a = H a

section
variable {K : PySem.W.Frag} {wa : Addr} {G H G1 H1 G2 H2 : Hp} {p : Addr} {o : HO}
theorem Wd.nwa (w : Wd wa G H) : H wa ≠ none := by
  obtain ⟨_, _, _, e⟩ := w.well
  rw [e]
  exact fun z => nomatch z
theorem Le.refl (w : Wd wa G H) : Le wa G H G H := ⟨w, fun _ _ => rfl, fun _ _ _ => rfl⟩
theorem Le.dom (l : Le wa G H G1 H1) {a : Addr} (h : H a ≠ none) : H1 a ≠ none := by
  by_cases e : a = wa
  · rw [e]
    exact l.wd.nwa
  · rw [l.fr a e h]
    exact h
theorem Le.trans (l : Le wa G H G1 H1) (m : Le wa G1 H1 G2 H2) : Le wa G H G2 H2 :=
  ⟨m.wd, fun a h => (m.kp a (l.dom h)).trans (l.kp a h), fun a n h => (m.fr a n (l.dom h)).trans (l.fr a n h)⟩
theorem Le.same (l : Le wa G H G1 H1) (w : Wd wa G H) : Same G G1 := fun a u e => by
  rw [l.kp a (by rw [w.sub a u e]; exact fun z => nomatch z)]
  exact e
theorem same_new {H : Hp} {p : Addr} (h : H p = none) (o : HO) : Same H (upd H p o) := fun b u q => by
  rw [upd_ne (ne_of_none q h)]
  exact q
/-- a new object, of G from then on -/
theorem Le.new (w : Wd wa G H) (hp : H p = none) : Le wa G H (upd G p o) (upd H p o) := by
  have nwp : wa ≠ p := fun e => by
    rw [← e] at hp
    exact w.nwa hp
  refine ⟨⟨fun a u e => ?_, by rw [upd_ne nwp]; exact w.out, ?_⟩, fun a h => ?_, fun a _ h => ?_⟩
  · by_cases z : a = p
    · subst z
      rw [upd_same] at e ⊢
      exact e
    · rw [upd_ne z] at e ⊢
      exact w.sub a u e
  · obtain ⟨x, y, z, e⟩ := w.well
    exact ⟨x, y, z, by rw [upd_ne nwp]; exact e⟩
  · exact upd_ne fun z => h (by rw [z]; exact hp)
  · exact upd_ne fun z => h (by rw [z]; exact hp)
/-- a new object that is not of G -/
theorem Le.tmp (w : Wd wa G H) (hp : H p = none) : Le wa G H G (upd H p o) := by
  have nwp : wa ≠ p := fun e => by
    rw [← e] at hp
    exact w.nwa hp
  refine ⟨⟨fun a u e => same_new hp o a u (w.sub a u e), w.out, ?_⟩, fun _ _ => rfl, fun a _ h => ?_⟩
  · obtain ⟨x, y, z, e⟩ := w.well
    exact ⟨x, y, z, by rw [upd_ne nwp]; exact e⟩
  · exact upd_ne fun z => h (by rw [z]; exact hp)
theorem Wd.fresh (w : Wd wa G H) (hp : H p = none) : G p = none := w.sub.free hp
theorem Rp.mono {v : V} {d : PyData} (e : Same G H) (h : Rp K wa G v d) : Rp K wa H v d := by
  rcases h with h | h
  · exact .inl (dq_mono e d v h)
  · exact .inr h
theorem Rps.mono (e : Same G H) : ∀ {vs : List V} {ds : List PyData}, Rps K wa G vs ds → Rps K wa H vs ds
  | _, _, .nil => .nil
  | _, _, .cons r t => .cons (r.mono e) (Rps.mono e t)
/-- data: all but the well -/
def Dt : PyData → Prop
  | .dict _ => False
  | _ => True
theorem Rp.dp {v : V} {d : PyData} (h : Rp K wa G v d) (t : Dt d) : Dq G v d := by
  rcases h with h | ⟨e, _⟩ | ⟨_, _, e, _⟩
  · exact h
  · rw [e] at t
    exact t.elim
  · rw [e] at t
    exact t.elim
theorem dqAll_of : ∀ {vs : List V} {ds : List PyData}, Rps K wa G vs ds → (∀ d ∈ ds, Dt d) → DqAll G vs ds
  | _, _, .nil, _ => .nil
  | _, _, .cons r t, h => .cons (r.dp (h _ List.mem_cons_self)) (dqAll_of t fun d m => h d (List.mem_cons_of_mem _ m))
theorem rps_of : ∀ {vs : List V} {ds : List PyData}, DqAll G vs ds → Rps K wa G vs ds
  | _, _, .nil => .nil
  | _, _, .cons r t => .cons (.inl r) (rps_of t)
theorem dq_dt {v : V} {d : PyData} (h : Dq G v d) : Dt d := by
  cases h <;> exact True.intro
theorem dqAll_dt : ∀ {vs : List V} {ds : List PyData}, DqAll G vs ds → ∀ d ∈ ds, Dt d
  | _, _, .nil, d, m => by cases m
  | _, _, .cons r t, d, m => by
    rcases List.mem_cons.mp m with e | m
    · rw [e]
      exact dq_dt r
    · exact dqAll_dt t d m
theorem rp_int {v : V} {i : Int} (h : Rp K wa G v (.int i)) : v = .int i := by
  have q := h.dp (show Dt (.int i) from True.intro)
  cases q
  rfl
theorem rp_str {v : V} {x : Str} (h : Rp K wa G v (.str x)) : v = .str x := by
  have q := h.dp (show Dt (.str x) from True.intro)
  cases q
  rfl
theorem rp_bool {v : V} {b : Bool} (h : Rp K wa G v (.bool b)) : v = .bl b := by
  have q := h.dp (show Dt (.bool b) from True.intro)
  cases q
  rfl
theorem rp_none {v : V} (h : Rp K wa G v .none) : v = .non := by
  have q := h.dp (show Dt .none from True.intro)
  cases q
  rfl
theorem rp_tuple {v : V} {ds : List PyData} (h : Rp K wa G v (.tuple ds)) : ∃ a xs, v = .ref a ∧ G a = some (.tup xs) ∧ DqAll G xs ds := by
  have q := h.dp (show Dt (.tuple ds) from True.intro)
  cases q with
  | tup hs ha => exact ⟨_, _, rfl, hs, ha⟩
theorem rp_list {v : V} {ds : List PyData} (h : Rp K wa G v (.list ds)) : ∃ a xs, v = .ref a ∧ G a = some (.lst xs) ∧ DqAll G xs ds := by
  have q := h.dp (show Dt (.list ds) from True.intro)
  cases q with
  | lst hs ha => exact ⟨_, _, rfl, hs, ha⟩
theorem rp_wel {v : V} (h : Rp K wa G v wel) : v = .ref wa := by
  rcases h with h | ⟨_, e⟩ | ⟨_, _, e, _⟩
  · exact (dq_dt h).elim
  · exact e
  · cases e
theorem rp_kon {v : V} {xs : List Str} (h : Rp K wa G v (kon xs)) : ∃ a, v = .ref a ∧ ∀ H : Hp, SqT K H a (xs.map V.str) := by
  rcases h with h | ⟨e, _⟩ | ⟨ys, a, e, rfl, q⟩
  · exact (dq_dt h).elim
  · cases e
  · have e1 : xs.map PyData.str = ys.map PyData.str := by
      injection e with e
      injection e with e _
      injection e with e _
      injection e
    have e2 : xs = ys := by
      have inj : ∀ {us vs : List Str}, us.map PyData.str = vs.map PyData.str → us = vs := by
        intro us
        induction us with
        | nil =>
          intro vs h
          cases vs with
          | nil => rfl
          | cons _ _ => cases h
        | cons u us ih =>
          intro vs h
          cases vs with
          | nil => cases h
          | cons w ws =>
            injection h with h1 h2
            injection h1 with h1
            rw [h1, ih h2]
      exact inj e1
    subst e2
    exact ⟨a, rfl, q⟩
end

/-! ### the names' values as data -/
abbrev DS := List (Option PyData)
def SlotOk (K : PySem.W.Frag) (wa : Addr) (G : Hp) (o : Option V) (d : Option PyData) : Prop := ∀ x, d = some x → ∃ v, o = some v ∧ Rp K wa G v x
abbrev EnvOk (K : PySem.W.Frag) (wa : Addr) (G : Hp) : St → DS → Prop := Paired (SlotOk K wa G)
def wipeD (δ : DS) : List Nat → DS
  | [] => δ
  | v :: vs => (wipeD δ vs).set v none
section
variable {K : PySem.W.Frag} {wa : Addr} {G H : Hp}
theorem EnvOk.mono (e : Same G H) : ∀ {σ : St} {δ : DS}, EnvOk K wa G σ δ → EnvOk K wa H σ δ
  | _, _, .nil => .nil
  | _, _, .cons r t => .cons (fun x hx => let ⟨v, h1, h2⟩ := r x hx; ⟨v, h1, h2.mono e⟩) (EnvOk.mono e t)
theorem EnvOk.get : ∀ {σ : St} {δ : DS} {i : Nat} {d : PyData}, EnvOk K wa G σ δ → δ[i]? = some (some d) → ∃ v, σ[i]? = some (some v) ∧ Rp K wa G v d
  | _, _, _, _, .nil, e => by simp at e
  | _, _, 0, d, .cons r _, e => by
    simp at e
    obtain ⟨v, h1, h2⟩ := r d e
    exact ⟨v, by simp [h1], h2⟩
  | _, _, i + 1, d, .cons _ t, e => by
    obtain ⟨v, h1, h2⟩ := EnvOk.get (i := i) (d := d) t (by simpa using e)
    exact ⟨v, by simpa using h1, h2⟩
theorem EnvOk.set {o : Option V} {d : Option PyData} (r : SlotOk K wa G o d) : ∀ {σ : St} {δ : DS} (i : Nat), EnvOk K wa G σ δ → EnvOk K wa G (σ.set i o) (δ.set i d)
  | _, _, _, .nil => .nil
  | _, _, 0, .cons _ t => .cons r t
  | _, _, i + 1, .cons q t => .cons q (EnvOk.set r i t)
theorem slot_some {v : V} {d : PyData} (h : Rp K wa G v d) : SlotOk K wa G (some v) (some d) := fun x e => ⟨v, rfl, by cases e; exact h⟩
theorem slot_none {o : Option V} : SlotOk K wa G o none := fun x e => nomatch e
theorem EnvOk.wipe {σ : St} {δ : DS} (h : EnvOk K wa G σ δ) : ∀ vs : List Nat, EnvOk K wa G (wipe σ vs) (wipeD δ vs)
  | [] => h
  | v :: vs => (EnvOk.wipe h vs).set slot_none v
theorem EnvOk.start {vs : List V} {ds : List PyData} (n : Nat) (h : Rps K wa G vs ds) : EnvOk K wa G (vs.map some ++ List.replicate n none) (ds.map some ++ List.replicate n none) := by
  induction h with
  | nil =>
    show EnvOk K wa G (List.replicate n none) (List.replicate n none)
    induction n with
    | zero => exact .nil
    | succ n ih => exact .cons slot_none ih
  | cons r _ ih => exact .cons (slot_some r) ih
end
end K19
set_option maxHeartbeats 4000000
/-! Judgements over data: what an expression | a test | arguments | a walk | a target | a statement does, with no heap in sight. -/
namespace K19
open PySem PySem.Spec PyProof.Rows L2

/-- what is the same in a family of contexts (a body's; a comprehension's blocks) -/
structure Fm (P : Program) (w : World) (K : PySem.W.Frag) (mg : Str → Option Value) (base : Heap) (N : List Str) (sc : Scope) (k : Nat) {ι : Type} (X : ι → Cx) : Prop where
  P_ : ∀ i, (X i).prog = P
  w_ : ∀ i, (X i).w = w
  K_ : ∀ i, (X i).K = K
  mg_ : ∀ i, (X i).mg = mg
  base_ : ∀ i, (X i).base = base
  N_ : ∀ i, (X i).N = N
  sc_ : ∀ i, (X i).env.scope = sc
  calm : ∀ i, (X i).calm = true
  room : ∀ i, Room k (X i).A
  xe : ∀ i, (X i).xe = fun _ _ => False

section
variable {ι : Type} (K : PySem.W.Frag) (X : ι → Cx)
/-- e comes to a datum of k -/
def XE (e : Expr) (δ : DS) (k : PyData → Prop) : Prop :=
  ∀ (wa : Addr) (G H : Hp) (σ : St) (Q : VK), Wd wa G H → EnvOk K wa G σ δ → (∀ v d G' H', Le wa G H G' H' → Rp K wa G' v d → k d → Q v H') → ∃ t : TE, (∀ i, PE (X i) e t) ∧ t σ H Q
def XT (e : Expr) (δ : DS) (k : Bool → Prop) : Prop :=
  ∀ (wa : Addr) (G H : Hp) (σ : St) (Q : Bool → Hp → Prop), Wd wa G H → EnvOk K wa G σ δ → (∀ b G' H', Le wa G H G' H' → k b → Q b H') → ∃ t : TT, (∀ i, PT (X i) e t) ∧ t σ H Q
/-- a chain of and, or -/
def XW (e : Expr) (δ : DS) (k : Bool → Prop) : Prop :=
  ∀ (wa : Addr) (G H : Hp) (σ : St) (Q : Bool → Hp → Prop), Wd wa G H → EnvOk K wa G σ δ → (∀ b G' H', Le wa G H G' H' → k b → Q b H') → ∃ t : TT, (∀ i, PW (X i) e t) ∧ t σ H Q
/-- a clause's tests -/
def XTs (es : List Expr) (δ : DS) (k : Bool → Prop) : Prop :=
  ∀ (wa : Addr) (G H : Hp) (σ : St) (Q : Bool → Hp → Prop), Wd wa G H → EnvOk K wa G σ δ → (∀ b G' H', Le wa G H G' H' → k b → Q b H') → ∃ t : TT, (∀ i, PTs (X i) es t) ∧ t σ H Q
def XA (es : List Expr) (δ : DS) (k : List PyData → Prop) : Prop :=
  ∀ (wa : Addr) (G H : Hp) (σ : St) (Q : List V → Hp → Prop), Wd wa G H → EnvOk K wa G σ δ → (∀ vs ds G' H', Le wa G H G' H' → Rps K wa G' vs ds → k ds → Q vs H') → ∃ t : TA, (∀ i, PA (X i) es t) ∧ t σ H Q
/-- a slice's part -/
def XO (e : Option Expr) (δ : DS) (k : Option Int → Prop) : Prop :=
  ∀ (wa : Addr) (G H : Hp) (σ : St) (Q : Option Int → Hp → Prop), Wd wa G H → EnvOk K wa G σ δ → (∀ o G' H', Le wa G H G' H' → k o → Q o H') → ∃ t : TO, (∀ i, PO (X i) e t) ∧ t σ H Q
/-- a walk over the data ds, from (G, H) on -/
def WalkD (wa : Addr) (G : Hp) (J : It) (ds : List PyData) : Prop :=
  (∀ (j : Nat) (d : PyData) (G1 H1 : Hp), ds[j]? = some d → Wd wa G1 H1 → Same G G1 → J.go j H1 ∧ ∀ x H2, J.yld j H1 x H2 → ∃ G2, Le wa G1 H1 G2 H2 ∧ Rp K wa G2 x d) ∧
  ∀ (G1 H1 : Hp), Wd wa G1 H1 → Same G G1 → J.stop ds.length H1
def XI (tg iter : Expr) (δ : DS) (k : List PyData → Prop) : Prop :=
  ∀ (wa : Addr) (G H : Hp) (σ : St) (R : It → Hp → Prop), Wd wa G H → EnvOk K wa G σ δ → (∀ J ds G' H', Le wa G H G' H' → WalkD K wa G' J ds → k ds → R J H') → ∃ t : TI, (∀ i, PI (X i) tg iter t) ∧ t σ H R
/-- a target takes d: the names in js change -/
def XG (tg : Expr) (d : PyData) (δ : DS) (js : List Nat) (k : DS → Prop) : Prop :=
  ∀ (wa : Addr) (G H : Hp) (σ : St) (v : V) (R : St → Hp → Prop), Wd wa G H → EnvOk K wa G σ δ → Rp K wa G v d →
    (∀ σ' δ', EnvOk K wa G σ' δ' → σ'.length = σ.length → (∀ i, i ∉ js → σ'[i]? = σ[i]?) → k δ' → R σ' H) → ∃ t : TG, (∀ i, PG (X i) tg t) ∧ t v σ H R
def XGs (tgs : List Expr) (ds : List PyData) (δ : DS) (js : List Nat) (k : DS → Prop) : Prop :=
  ∀ (wa : Addr) (G H : Hp) (σ : St) (vs : List V) (R : St → Hp → Prop), Wd wa G H → EnvOk K wa G σ δ → Rps K wa G vs ds →
    (∀ σ' δ', EnvOk K wa G σ' δ' → σ'.length = σ.length → (∀ i, i ∉ js → σ'[i]? = σ[i]?) → k δ' → R σ' H) → ∃ t : TGs, (∀ i, PGs (X i) tgs t) ∧ t vs σ H R
end

section
variable {ι : Type} {K : PySem.W.Frag} {X : ι → Cx} {e a b c : Expr} {δ : DS} {pos : Pos} {P : Program} {w : World} {mg : Str → Option Value} {base : Heap} {N : List Str} {sc : Scope} {n : Nat}
/-! ### the readings as they may come -/
def rE (X : ι → Cx) (e : Expr) : TE := fun σ H Q => ∃ t : TE, (∀ i, PE (X i) e t) ∧ t σ H Q
theorem rE_ok (X : ι → Cx) (e : Expr) (i : ι) : PE (X i) e (rE X e) := ⟨fun pins s σ H Q I h => let ⟨_, p, q⟩ := h; (p i).run pins s σ H Q I q⟩
def rT (X : ι → Cx) (e : Expr) : TT := fun σ H Q => ∃ t : TT, (∀ i, PT (X i) e t) ∧ t σ H Q
theorem rT_ok (X : ι → Cx) (e : Expr) (i : ι) : PT (X i) e (rT X e) := ⟨fun pins s σ H Q I h => let ⟨_, p, q⟩ := h; (p i).run pins s σ H Q I q⟩
def rW (X : ι → Cx) (e : Expr) : TT := fun σ H Q => ∃ t : TT, (∀ i, PW (X i) e t) ∧ t σ H Q
theorem rW_ok (X : ι → Cx) (e : Expr) (i : ι) : PW (X i) e (rW X e) := ⟨fun wh pins s σ H Q I h => let ⟨_, p, q⟩ := h; (p i).run wh pins s σ H Q I q⟩
def rTs (X : ι → Cx) (es : List Expr) : TT := fun σ H Q => ∃ t : TT, (∀ i, PTs (X i) es t) ∧ t σ H Q
theorem rTs_ok (X : ι → Cx) (es : List Expr) (i : ι) : PTs (X i) es (rTs X es) := ⟨fun pins s σ H Q I h => let ⟨_, p, q⟩ := h; (p i).run pins s σ H Q I q⟩
def rA (X : ι → Cx) (es : List Expr) : TA := fun σ H Q => ∃ t : TA, (∀ i, PA (X i) es t) ∧ t σ H Q
theorem rA_ok (X : ι → Cx) (es : List Expr) (i : ι) : PA (X i) es (rA X es) := ⟨fun ps pins s σ H Q I h => let ⟨_, p, q⟩ := h; (p i).run ps pins s σ H Q I q⟩
def rO (X : ι → Cx) (e : Option Expr) : TO := fun σ H Q => ∃ t : TO, (∀ i, PO (X i) e t) ∧ t σ H Q
theorem rO_ok (X : ι → Cx) (e : Option Expr) (i : ι) : PO (X i) e (rO X e) := by
  constructor
  intro pins s σ H Q I h
  obtain ⟨_, p, q⟩ := h
  exact (p i).run pins s σ H Q I q
def rI (X : ι → Cx) (tg e : Expr) : TI := fun σ H Q => ∃ t : TI, (∀ i, PI (X i) tg e t) ∧ t σ H Q
theorem rI_ok (X : ι → Cx) (tg e : Expr) (i : ι) : PI (X i) tg e (rI X tg e) := ⟨fun pins s σ H Q I h => let ⟨_, p, q⟩ := h; (p i).run pins s σ H Q I q⟩
def rG (X : ι → Cx) (e : Expr) : TG := fun v σ H Q => ∃ t : TG, (∀ i, PG (X i) e t) ∧ t v σ H Q
theorem rG_ok (X : ι → Cx) (e : Expr) (i : ι) : PG (X i) e (rG X e) := ⟨fun pins s σ H v u Q I r h => let ⟨_, p, q⟩ := h; (p i).run pins s σ H v u Q I r q⟩
def rGs (X : ι → Cx) (es : List Expr) : TGs := fun v σ H Q => ∃ t : TGs, (∀ i, PGs (X i) es t) ∧ t v σ H Q
theorem rGs_ok (X : ι → Cx) (es : List Expr) (i : ι) : PGs (X i) es (rGs X es) := ⟨fun pins s σ H v u Q I r h => let ⟨_, p, q⟩ := h; (p i).run pins s σ H v u Q I r q⟩

/-! ### consequence -/
theorem XE.imp {k k' : PyData → Prop} (h : XE K X e δ k) (f : ∀ d, k d → k' d) : XE K X e δ k' := fun wa G H σ Q wd en hq => h wa G H σ Q wd en fun v d G' H' l r z => hq v d G' H' l r (f d z)
theorem XT.imp {k k' : Bool → Prop} (h : XT K X e δ k) (f : ∀ d, k d → k' d) : XT K X e δ k' := fun wa G H σ Q wd en hq => h wa G H σ Q wd en fun d G' H' l z => hq d G' H' l (f d z)
theorem XA.imp {es : List Expr} {k k' : List PyData → Prop} (h : XA K X es δ k) (f : ∀ d, k d → k' d) : XA K X es δ k' := fun wa G H σ Q wd en hq => h wa G H σ Q wd en fun v d G' H' l r z => hq v d G' H' l r (f d z)

/-! ### names, constants -/
theorem XE.var {j : Nat} {x : Str} {d : PyData} {k : PyData → Prop} (f : Fm P w K mg base N sc n X) (hN : N[j]? = some x) (hv : Vis sc x) (hδ : δ[j]? = some (some d)) (h : k d)
    (hd : (x == ("__debug__" : Str)) = false := by decide) (hcd : (x == ("__classdict__" : Str)) = false := by decide) : XE K X (.Name x pos) δ k := fun wa G H σ Q wd en hq => by
  obtain ⟨v, e1, r⟩ := en.get hδ
  exact ⟨tVar j, fun i => pe_var (by rw [f.N_ i]; exact hN) (by rw [f.sc_ i]; exact hv) hd hcd, v, e1, hq v d G H (Le.refl wd) r h⟩
theorem XE.int {i : Int} {j : Nat} {k : PyData → Prop} (h : k (.int i)) : XE K X (.Constant (.int i) j pos) δ k := fun wa G H σ Q wd en hq => ⟨_, fun _ => pe_int, hq _ _ G H (Le.refl wd) (.inl (.int i)) h⟩
theorem XE.bl {b : Bool} {j : Nat} {k : PyData → Prop} (h : k (.bool b)) : XE K X (.Constant (.bool b) j pos) δ k := fun wa G H σ Q wd en hq => ⟨_, fun _ => pe_bl, hq _ _ G H (Le.refl wd) (.inl (.bl b)) h⟩
theorem XE.non {j : Nat} {k : PyData → Prop} (h : k .none) : XE K X (.Constant .none j pos) δ k := fun wa G H σ Q wd en hq => ⟨_, fun _ => pe_non, hq _ _ G H (Le.refl wd) (.inl .non) h⟩
theorem XE.str {x : Str} {j : Nat} {k : PyData → Prop} (h : k (.str x)) : XE K X (.Constant (.str x) j pos) δ k := fun wa G H σ Q wd en hq => ⟨_, fun _ => pe_str, hq _ _ G H (Le.refl wd) (.inl (.str x)) h⟩
/-- a module's constant -/
theorem XE.glob {x : Str} {v : V} {u : Value} {d : PyData} {k : PyData → Prop} (f : Fm P w K mg base N sc n X) (hg : sc.names.lookup x = some .globalImplicit) (hm : mg x = some u) (r : RelV v u) (hd : ∀ wa G, Rp K wa G v d) (h : k d)
    (hdb : (x == ("__debug__" : Str)) = false := by decide) : XE K X (.Name x pos) δ k := fun wa G H σ Q wd en hq =>
  ⟨_, fun i => pe_glob (by unfold Gl; rw [show (X i).env.kindOf x = (X i).env.scope.names.lookup x from rfl, f.sc_ i]; exact hg) (by rw [f.mg_ i]; exact hm) r hdb, hq _ _ G H (Le.refl wd) (hd wa G) h⟩

/-! ### operators -/
/-- what a two-place operation by values gives on data -/
def RD (K : PySem.W.Frag) (r : R2) (d1 d2 : PyData) (k : PyData → Prop) : Prop := ∀ (wa : Addr) (G H : Hp) (x y : V) (Q : VK), Wd wa G H → Rp K wa G x d1 → Rp K wa G y d2 → (∀ v d G' H', Le wa G H G' H' → Rp K wa G' v d → k d → Q v H') → r x y H Q
theorem two {r : R2} {k : PyData → Prop} {wa : Addr} {G H : Hp} {σ : St} {Q : VK} (ha : XE K X a δ fun d1 => XE K X b δ fun d2 => RD K r d1 d2 k) (wd : Wd wa G H) (en : EnvOk K wa G σ δ) (hq : ∀ v d G' H', Le wa G H G' H' → Rp K wa G' v d → k d → Q v H') :
    tOp r (rE X a) (rE X b) σ H Q :=
  ha wa G H σ _ wd en fun x d1 G1 H1 l1 r1 h1 => h1 wa G1 H1 σ _ l1.wd (en.mono (l1.same wd)) fun y d2 G2 H2 l2 r2 h2 => h2 wa G2 H2 x y Q l2.wd (r1.mono (l2.same l1.wd)) r2 fun v d G' H' l3 r3 h3 => hq v d G' H' (l1.trans (l2.trans l3)) r3 h3
theorem XE.op {op : Operator} {r : R2} {k : PyData → Prop} (ho : ∀ i, OpR (X i) (binaryOp op) r) (ha : XE K X a δ fun d1 => XE K X b δ fun d2 => RD K r d1 d2 k) : XE K X (.BinOp a op b pos) δ k := fun wa G H σ Q wd en hq =>
  ⟨_, fun i => pe_op (ho i) (rE_ok X a i) (rE_ok X b i), two ha wd en hq⟩
theorem XE.cmp {op : CmpOp} {r : R2} {k : PyData → Prop} (ho : ∀ i, OpR (X i) (compareOp op) r) (hm : behindInMarks op b = false) (ha : XE K X a δ fun d1 => XE K X b δ fun d2 => RD K r d1 d2 k) : XE K X (.Compare a [op] [b] pos) δ k := fun wa G H σ Q wd en hq =>
  ⟨_, fun i => pe_cmpR (ho i) (rE_ok X a i) (rE_ok X b i) hm, two ha wd en hq⟩
theorem XT.cmp {op : CmpOp} {r : R2} {k : Bool → Prop} (ho : ∀ i, OpR (X i) (compareOp op) r) (hm : behindInMarks op b = false) (ha : XE K X a δ fun d1 => XE K X b δ fun d2 => RD K r d1 d2 fun d => ∃ c, d = .bool c ∧ k c) : XT K X (.Compare a [op] [b] pos) δ k := fun wa G H σ Q wd en hq =>
  ⟨_, fun i => pt_cmpR (ho i) (rE_ok X a i) (rE_ok X b i) hm, two ha wd en fun v d G' H' l r h => by
    obtain ⟨c, rfl, h⟩ := h
    exact ⟨c, rp_bool r, hq c G' H' l h⟩⟩
theorem rd_I {C : Int → Int → Prop} {g : Int → Int → Int} {d1 d2 : PyData} {k : PyData → Prop} (h : ∃ i j, d1 = .int i ∧ d2 = .int j ∧ C i j ∧ k (.int (g i j))) : RD K (L2.rI C fun i j => .int (g i j)) d1 d2 k := fun wa G H x y Q wd r1 r2 hq => by
  obtain ⟨i, j, rfl, rfl, hc, h⟩ := h
  exact ⟨i, j, rp_int r1, rp_int r2, hc, hq _ _ G H (Le.refl wd) (.inl (.int _)) h⟩
theorem rd_I0 {g : Int → Int → Int} {d1 d2 : PyData} {k : PyData → Prop} (h : ∃ i j, d1 = .int i ∧ d2 = .int j ∧ k (.int (g i j))) : RD K (rI0 fun i j => .int (g i j)) d1 d2 k := fun wa G H x y Q wd r1 r2 hq => by
  obtain ⟨i, j, rfl, rfl, h⟩ := h
  exact ⟨i, j, rp_int r1, rp_int r2, hq _ _ G H (Le.refl wd) (.inl (.int _)) h⟩
theorem rd_B0 {g : Int → Int → Bool} {d1 d2 : PyData} {k : PyData → Prop} (h : ∃ i j, d1 = .int i ∧ d2 = .int j ∧ k (.bool (g i j))) : RD K (rI0 fun i j => .bl (g i j)) d1 d2 k := fun wa G H x y Q wd r1 r2 hq => by
  obtain ⟨i, j, rfl, rfl, h⟩ := h
  exact ⟨i, j, rp_int r1, rp_int r2, hq _ _ G H (Le.refl wd) (.inl (.bl _)) h⟩
end
end K19
set_option maxHeartbeats 4000000
/-! Expressions over data: operators, comparisons, tests, displays, subscripts, slices. -/
namespace K19
open PySem PySem.Spec PyProof.Rows L2
section
variable {ι : Type} {K : PySem.W.Frag} {X : ι → Cx} {e a b c : Expr} {δ : DS} {pos : Pos} {P : Program} {w : World} {mg : Str → Option Value} {base : Heap} {N : List Str} {sc : Scope} {n : Nat} {k : PyData → Prop} {kt : Bool → Prop}

/-! ### ints -/
theorem RD.of {r r' : R2} {d1 d2 : PyData} (h : RD K r d1 d2 k) (e : r = r') : RD K r' d1 d2 k := e ▸ h
theorem XE.add (ha : XE K X a δ fun d1 => XE K X b δ fun d2 => ∃ i j, d1 = .int i ∧ d2 = .int j ∧ k (.int (i + j))) : XE K X (.BinOp a .Add b pos) δ k := XE.op (fun _ => op_add) (ha.imp fun _ h => h.imp fun _ h => rd_I0 (g := fun i j => i + j) h)
theorem XE.sub (ha : XE K X a δ fun d1 => XE K X b δ fun d2 => ∃ i j, d1 = .int i ∧ d2 = .int j ∧ k (.int (i - j))) : XE K X (.BinOp a .Sub b pos) δ k := XE.op (fun _ => op_sub) (ha.imp fun _ h => h.imp fun _ h => rd_I0 (g := fun i j => i - j) h)
theorem XE.mul (ha : XE K X a δ fun d1 => XE K X b δ fun d2 => ∃ i j, d1 = .int i ∧ d2 = .int j ∧ CMul i j ∧ k (.int (i * j))) : XE K X (.BinOp a .Mult b pos) δ k := XE.op (fun _ => op_mul) (ha.imp fun _ h => h.imp fun _ h => rd_I h)
theorem XE.fdiv (ha : XE K X a δ fun d1 => XE K X b δ fun d2 => ∃ i j, d1 = .int i ∧ d2 = .int j ∧ CDiv i j ∧ k (.int (i / j))) : XE K X (.BinOp a .FloorDiv b pos) δ k := XE.op (fun _ => op_fdiv) (ha.imp fun _ h => h.imp fun _ h => rd_I h)
theorem XE.mod (ha : XE K X a δ fun d1 => XE K X b δ fun d2 => ∃ i j, d1 = .int i ∧ d2 = .int j ∧ 0 < j ∧ k (.int (i % j))) : XE K X (.BinOp a .Mod b pos) δ k := XE.op (fun _ => op_mod) (ha.imp fun _ h => h.imp fun _ h => rd_I (C := fun _ j => 0 < j) h)
theorem XE.pow (ha : XE K X a δ fun d1 => XE K X b δ fun d2 => ∃ i j, d1 = .int i ∧ d2 = .int j ∧ CPow i j ∧ k (.int (i ^ j.toNat))) : XE K X (.BinOp a .Pow b pos) δ k := XE.op (fun _ => op_pow) (ha.imp fun _ h => h.imp fun _ h => rd_I h)
theorem XE.shl (ha : XE K X a δ fun d1 => XE K X b δ fun d2 => ∃ i j, d1 = .int i ∧ d2 = .int j ∧ CPow i j ∧ k (.int (i * 2 ^ j.toNat))) : XE K X (.BinOp a .LShift b pos) δ k := XE.op (fun _ => op_shl) (ha.imp fun _ h => h.imp fun _ h => rd_I h)
theorem XE.shr (ha : XE K X a δ fun d1 => XE K X b δ fun d2 => ∃ i j, d1 = .int i ∧ d2 = .int j ∧ 0 ≤ j ∧ k (.int (i / 2 ^ j.toNat))) : XE K X (.BinOp a .RShift b pos) δ k := XE.op (fun _ => op_shr) (ha.imp fun _ h => h.imp fun _ h => rd_I (C := fun _ j => 0 ≤ j) h)
theorem XE.band (ha : XE K X a δ fun d1 => XE K X b δ fun d2 => ∃ i j, d1 = .int i ∧ d2 = .int j ∧ k (.int (Builtin.bitAnd i j))) : XE K X (.BinOp a .BitAnd b pos) δ k := XE.op (fun _ => op_and) (ha.imp fun _ h => h.imp fun _ h => rd_I0 (g := Builtin.bitAnd) h)
theorem XE.bor (ha : XE K X a δ fun d1 => XE K X b δ fun d2 => ∃ i j, d1 = .int i ∧ d2 = .int j ∧ k (.int (Builtin.bitOr i j))) : XE K X (.BinOp a .BitOr b pos) δ k := XE.op (fun _ => op_or) (ha.imp fun _ h => h.imp fun _ h => rd_I0 (g := Builtin.bitOr) h)
theorem XE.bxor (ha : XE K X a δ fun d1 => XE K X b δ fun d2 => ∃ i j, d1 = .int i ∧ d2 = .int j ∧ k (.int (Builtin.bitXor i j))) : XE K X (.BinOp a .BitXor b pos) δ k := XE.op (fun _ => op_xor) (ha.imp fun _ h => h.imp fun _ h => rd_I0 (g := Builtin.bitXor) h)
theorem XE.neg (ha : XE K X a δ fun d1 => ∃ i, d1 = .int i ∧ k (.int (-i))) : XE K X (.UnaryOp .USub a pos) δ k := fun wa G H σ Q wd en hq =>
  ⟨_, fun i => pe_un un_neg (rE_ok X a i), (ha wa G H σ (fun x H1 => L2.rU (fun i => .int (-i)) x H1 Q) wd en fun v d G1 H1 l r h => by
    obtain ⟨i, rfl, h⟩ := h
    exact ⟨i, rp_int r, hq _ _ G1 H1 l (.inl (.int _)) h⟩)⟩

/-! ### comparisons of ints -/
theorem cmpB {op : CmpOp} {g : Int → Int → Bool} (ho : ∀ i, OpR (X i) (compareOp op) (rI0 fun i j => .bl (g i j))) (h1 : op ≠ .In) (h2 : op ≠ .NotIn) (ha : XE K X a δ fun d1 => XE K X b δ fun d2 => ∃ i j, d1 = .int i ∧ d2 = .int j ∧ k (.bool (g i j))) : XE K X (.Compare a [op] [b] pos) δ k :=
  XE.cmp ho (nomark b h1 h2) (ha.imp fun _ h => h.imp fun _ h => rd_B0 h)
theorem cmpT {op : CmpOp} {g : Int → Int → Bool} (ho : ∀ i, OpR (X i) (compareOp op) (rI0 fun i j => .bl (g i j))) (h1 : op ≠ .In) (h2 : op ≠ .NotIn) (ha : XE K X a δ fun d1 => XE K X b δ fun d2 => ∃ i j, d1 = .int i ∧ d2 = .int j ∧ kt (g i j)) : XT K X (.Compare a [op] [b] pos) δ kt :=
  XT.cmp ho (nomark b h1 h2) (ha.imp fun _ h => h.imp fun _ ⟨i, j, e1, e2, h⟩ => rd_B0 ⟨i, j, e1, e2, _, rfl, h⟩)
theorem XE.lt (ha : XE K X a δ fun d1 => XE K X b δ fun d2 => ∃ i j, d1 = .int i ∧ d2 = .int j ∧ k (.bool (decide (i < j)))) : XE K X (.Compare a [.Lt] [b] pos) δ k := cmpB (g := fun i j => decide (i < j)) (fun _ => op_lt) (by decide) (by decide) ha
theorem XE.le (ha : XE K X a δ fun d1 => XE K X b δ fun d2 => ∃ i j, d1 = .int i ∧ d2 = .int j ∧ k (.bool (decide (i ≤ j)))) : XE K X (.Compare a [.LtE] [b] pos) δ k := cmpB (g := fun i j => decide (i ≤ j)) (fun _ => op_le) (by decide) (by decide) ha
theorem XE.gt (ha : XE K X a δ fun d1 => XE K X b δ fun d2 => ∃ i j, d1 = .int i ∧ d2 = .int j ∧ k (.bool (decide (j < i)))) : XE K X (.Compare a [.Gt] [b] pos) δ k := cmpB (g := fun i j => decide (j < i)) (fun _ => op_gt) (by decide) (by decide) ha
theorem XE.ge (ha : XE K X a δ fun d1 => XE K X b δ fun d2 => ∃ i j, d1 = .int i ∧ d2 = .int j ∧ k (.bool (decide (j ≤ i)))) : XE K X (.Compare a [.GtE] [b] pos) δ k := cmpB (g := fun i j => decide (j ≤ i)) (fun _ => op_ge) (by decide) (by decide) ha
theorem XT.lt (ha : XE K X a δ fun d1 => XE K X b δ fun d2 => ∃ i j, d1 = .int i ∧ d2 = .int j ∧ kt (decide (i < j))) : XT K X (.Compare a [.Lt] [b] pos) δ kt := cmpT (g := fun i j => decide (i < j)) (fun _ => op_lt) (by decide) (by decide) ha
theorem XT.le (ha : XE K X a δ fun d1 => XE K X b δ fun d2 => ∃ i j, d1 = .int i ∧ d2 = .int j ∧ kt (decide (i ≤ j))) : XT K X (.Compare a [.LtE] [b] pos) δ kt := cmpT (g := fun i j => decide (i ≤ j)) (fun _ => op_le) (by decide) (by decide) ha
theorem XT.gt (ha : XE K X a δ fun d1 => XE K X b δ fun d2 => ∃ i j, d1 = .int i ∧ d2 = .int j ∧ kt (decide (j < i))) : XT K X (.Compare a [.Gt] [b] pos) δ kt := cmpT (g := fun i j => decide (j < i)) (fun _ => op_gt) (by decide) (by decide) ha
theorem XT.ge (ha : XE K X a δ fun d1 => XE K X b δ fun d2 => ∃ i j, d1 = .int i ∧ d2 = .int j ∧ kt (decide (j ≤ i))) : XT K X (.Compare a [.GtE] [b] pos) δ kt := cmpT (g := fun i j => decide (j ≤ i)) (fun _ => op_ge) (by decide) (by decide) ha

/-! ### == and != of data -/
/-- how == answers: as told by the kinds of the two -/
def EqK (d1 d2 : PyData) (kt : Bool → Prop) : Prop :=
  (∃ i j, d1 = .int i ∧ d2 = .int j ∧ kt (decide (i = j))) ∨ (∃ x y, d1 = .str x ∧ d2 = .str y ∧ kt (decide (x = y))) ∨
    (SeqAt.shaped d1 = true ∧ SeqAt.shaped d2 = true ∧ kt (PyData.eqv d1 d2))
theorem dt_shaped {d : PyData} (h : SeqAt.shaped d = true) : Dt d := by
  cases d with
  | dict _ =>
    have q := SeqAt.canLay_of_shaped h
    exact absurd q (by simp [PyData.canLay0])
  | _ => exact True.intro
/-- ==, scalars apart -/
def rEqX (K : PySem.W.Frag) : R2 := fun x y H Q => rEq x y H Q ∨ rEqD K x y H Q
def rNeX (K : PySem.W.Frag) : R2 := fun x y H Q => rNe x y H Q ∨ rNeD K x y H Q
theorem op_eqX (f : Fm P w K mg base N sc n X) (i : ι) : OpR (X i) (compareOp .Eq) (rEqX K) := by
  have h := (op_eq (X := X i)).or (op_eqD (X := X i) (f.room i).units)
  rw [f.K_ i] at h
  exact h
theorem op_neX (f : Fm P w K mg base N sc n X) (i : ι) : OpR (X i) (compareOp .NotEq) (rNeX K) := by
  have h := (op_ne (X := X i)).or (op_neD (X := X i) (f.room i).units)
  rw [f.K_ i] at h
  exact h
theorem rd_eq {d1 d2 : PyData} (h : EqK d1 d2 fun b => k (.bool b)) : RD K (rEqX K) d1 d2 k := fun wa G H x y Q wd r1 r2 hq => by
  rcases h with ⟨i, j, rfl, rfl, h⟩ | ⟨s, t, rfl, rfl, h⟩ | ⟨h1, h2, h⟩
  · rw [rp_int r1, rp_int r2]
    refine .inl ⟨rfl, hq _ _ G H (Le.refl wd) (.inl (.bl _)) ?_⟩
    rw [show decide (V.int i = V.int j) = decide (i = j) from decide_eq_decide.mpr ⟨fun e => V.int.inj e, fun e => by rw [e]⟩]
    exact h
  · rw [rp_str r1, rp_str r2]
    refine .inl ⟨rfl, hq _ _ G H (Le.refl wd) (.inl (.bl _)) ?_⟩
    rw [show decide (V.str s = V.str t) = decide (s = t) from decide_eq_decide.mpr ⟨fun e => V.str.inj e, fun e => by rw [e]⟩]
    exact h
  · exact .inr ⟨d1, d2, dp_of _ _ (dq_mono wd.sub _ _ (r1.dp (dt_shaped h1))), dp_of _ _ (dq_mono wd.sub _ _ (r2.dp (dt_shaped h2))), h1, h2, hq _ _ G H (Le.refl wd) (.inl (.bl _)) h⟩
theorem rd_ne {d1 d2 : PyData} (h : EqK d1 d2 fun b => k (.bool (!b))) : RD K (rNeX K) d1 d2 k := fun wa G H x y Q wd r1 r2 hq => by
  rcases h with ⟨i, j, rfl, rfl, h⟩ | ⟨s, t, rfl, rfl, h⟩ | ⟨h1, h2, h⟩
  · rw [rp_int r1, rp_int r2]
    refine .inl ⟨rfl, hq _ _ G H (Le.refl wd) (.inl (.bl _)) ?_⟩
    rw [show decide (V.int i = V.int j) = decide (i = j) from decide_eq_decide.mpr ⟨fun e => V.int.inj e, fun e => by rw [e]⟩]
    exact h
  · rw [rp_str r1, rp_str r2]
    refine .inl ⟨rfl, hq _ _ G H (Le.refl wd) (.inl (.bl _)) ?_⟩
    rw [show decide (V.str s = V.str t) = decide (s = t) from decide_eq_decide.mpr ⟨fun e => V.str.inj e, fun e => by rw [e]⟩]
    exact h
  · exact .inr ⟨d1, d2, dp_of _ _ (dq_mono wd.sub _ _ (r1.dp (dt_shaped h1))), dp_of _ _ (dq_mono wd.sub _ _ (r2.dp (dt_shaped h2))), h1, h2, hq _ _ G H (Le.refl wd) (.inl (.bl _)) h⟩
theorem XE.eq (f : Fm P w K mg base N sc n X) (ha : XE K X a δ fun d1 => XE K X b δ fun d2 => EqK d1 d2 fun b => k (.bool b)) : XE K X (.Compare a [.Eq] [b] pos) δ k :=
  XE.cmp (op_eqX f) (nomark b) (ha.imp fun _ h => h.imp fun _ h => rd_eq h)
theorem XE.ne (f : Fm P w K mg base N sc n X) (ha : XE K X a δ fun d1 => XE K X b δ fun d2 => EqK d1 d2 fun b => k (.bool (!b))) : XE K X (.Compare a [.NotEq] [b] pos) δ k :=
  XE.cmp (op_neX f) (nomark b) (ha.imp fun _ h => h.imp fun _ h => rd_ne h)
theorem EqK.imp {d1 d2 : PyData} {p q : Bool → Prop} (h : EqK d1 d2 p) (g : ∀ b, p b → q b) : EqK d1 d2 q := by
  rcases h with ⟨i, j, e1, e2, h⟩ | ⟨i, j, e1, e2, h⟩ | ⟨h1, h2, h⟩
  · exact .inl ⟨i, j, e1, e2, g _ h⟩
  · exact .inr (.inl ⟨i, j, e1, e2, g _ h⟩)
  · exact .inr (.inr ⟨h1, h2, g _ h⟩)
theorem XT.eq (f : Fm P w K mg base N sc n X) (ha : XE K X a δ fun d1 => XE K X b δ fun d2 => EqK d1 d2 kt) : XT K X (.Compare a [.Eq] [b] pos) δ kt :=
  XT.cmp (op_eqX f) (nomark b) (ha.imp fun _ h => h.imp fun _ h => rd_eq (h.imp fun _ q => ⟨_, rfl, q⟩))
theorem XT.ne (f : Fm P w K mg base N sc n X) (ha : XE K X a δ fun d1 => XE K X b δ fun d2 => EqK d1 d2 fun b => kt (!b)) : XT K X (.Compare a [.NotEq] [b] pos) δ kt :=
  XT.cmp (op_neX f) (nomark b) (ha.imp fun _ h => h.imp fun _ h => rd_ne (h.imp fun _ q => ⟨_, rfl, q⟩))

/-! ### is None -/
def isNone (d : PyData) : Bool := match d with | .none => true | _ => false
theorem dq_non {wa : Addr} {G : Hp} {v : V} {d : PyData} (r : Rp K wa G v d) : decide (v = .non) = isNone d := by
  rcases r with r | ⟨rfl, rfl⟩ | ⟨_, _, rfl, rfl, _⟩
  · cases r <;> rfl
  · rfl
  · rfl
theorem XT.isNot {j : Nat} {p2 : Pos} (ha : XE K X a δ fun d => kt (!isNone d)) : XT K X (.Compare a [.IsNot] [.Constant .none j p2] pos) δ kt := fun wa G H σ Q wd en hq =>
  ⟨_, fun i => pt_cmp (pc_notN (rE_ok X a i)), ha wa G H σ _ wd en fun v d G1 H1 l r h => ⟨_, rfl, hq _ G1 H1 l (by rw [dq_non r]; exact h)⟩⟩
theorem XT.is {j : Nat} {p2 : Pos} (ha : XE K X a δ fun d => kt (isNone d)) : XT K X (.Compare a [.Is] [.Constant .none j p2] pos) δ kt := fun wa G H σ Q wd en hq =>
  ⟨_, fun i => pt_cmp (pc_isN (rE_ok X a i)), ha wa G H σ _ wd en fun v d G1 H1 l r h => ⟨_, rfl, hq _ G1 H1 l (by rw [dq_non r]; exact h)⟩⟩
theorem XE.is {j : Nat} {p2 : Pos} (ha : XE K X a δ fun d => k (.bool (isNone d))) : XE K X (.Compare a [.Is] [.Constant .none j p2] pos) δ k := fun wa G H σ Q wd en hq =>
  ⟨_, fun i => pe_cmp (pc_isN (rE_ok X a i)), ha wa G H σ _ wd en fun v d G1 H1 l r h => hq _ _ G1 H1 l (.inl (.bl _)) (by rw [dq_non r]; exact h)⟩
theorem XE.isNot {j : Nat} {p2 : Pos} (ha : XE K X a δ fun d => k (.bool (!isNone d))) : XE K X (.Compare a [.IsNot] [.Constant .none j p2] pos) δ k := fun wa G H σ Q wd en hq =>
  ⟨_, fun i => pe_cmp (pc_notN (rE_ok X a i)), ha wa G H σ _ wd en fun v d G1 H1 l r h => hq _ _ G1 H1 l (.inl (.bl _)) (by rw [dq_non r]; exact h)⟩

/-! ### tests from values; and, or, not; a if c else b -/
theorem XT.val (h : XE K X e δ fun d => ∃ b, d = .bool b ∧ kt b) (he : ∀ i whole, isTrue e (X i).env whole = (do let v ← whole; standAt e.pos; holding [v] (truthy v)) := by intro _ _; rfl) : XT K X e δ kt := fun wa G H σ Q wd en hq =>
  ⟨_, fun i => pt_val (rE_ok X e i) (he i), h wa G H σ _ wd en fun v d G1 H1 l r h => by
    obtain ⟨b, rfl, h⟩ := h
    exact ⟨b, rp_bool r, hq b G1 H1 l h⟩⟩
theorem XT.not (h : XT K X a δ fun b => kt (!b)) : XT K X (.UnaryOp .Not a pos) δ kt := fun wa G H σ Q wd en hq =>
  ⟨_, fun i => pt_not (rT_ok X a i), h wa G H σ (fun b H1 => Q (!b) H1) wd en fun b G1 H1 l h => hq _ G1 H1 l h⟩
theorem XT.chain (h : XW K X e δ kt) : XT K X e δ kt := fun wa G H σ Q wd en hq => by
  obtain ⟨t, p, q⟩ := h wa G H σ Q wd en hq
  exact ⟨t, fun i => (p i).pt, q⟩
theorem XW.and1 (h : XT K X a δ kt) : XW K X (.BoolOp .And [a] pos) δ kt := fun wa G H σ Q wd en hq => by
  obtain ⟨t, p, q⟩ := h wa G H σ Q wd en hq
  exact ⟨t, fun i => pw_and1 (p i), q⟩
theorem XW.or1 (h : XT K X a δ kt) : XW K X (.BoolOp .Or [a] pos) δ kt := fun wa G H σ Q wd en hq => by
  obtain ⟨t, p, q⟩ := h wa G H σ Q wd en hq
  exact ⟨t, fun i => pw_or1 (p i), q⟩
theorem XW.and {rest : List Expr} (h : XT K X a δ fun c => if c = true then XW K X (.BoolOp .And (b :: rest) pos) δ kt else kt false) : XW K X (.BoolOp .And (a :: b :: rest) pos) δ kt := fun wa G H σ Q wd en hq =>
  ⟨_, fun i => pw_and (rT_ok X a i) (rW_ok X _ i), h wa G H σ _ wd en fun c G1 H1 l h => by
    cases c with
    | true => exact (show XW K X (.BoolOp .And (b :: rest) pos) δ kt from h) wa G1 H1 σ Q l.wd (en.mono (l.same wd)) fun d G2 H2 l2 h2 => hq d G2 H2 (l.trans l2) h2
    | false => exact hq false G1 H1 l h⟩
theorem XW.or {rest : List Expr} (h : XT K X a δ fun c => if c = true then kt true else XW K X (.BoolOp .Or (b :: rest) pos) δ kt) : XW K X (.BoolOp .Or (a :: b :: rest) pos) δ kt := fun wa G H σ Q wd en hq =>
  ⟨_, fun i => pw_or (rT_ok X a i) (rW_ok X _ i), h wa G H σ _ wd en fun c G1 H1 l h => by
    cases c with
    | true => exact hq true G1 H1 l h
    | false => exact (show XW K X (.BoolOp .Or (b :: rest) pos) δ kt from h) wa G1 H1 σ Q l.wd (en.mono (l.same wd)) fun d G2 H2 l2 h2 => hq d G2 H2 (l.trans l2) h2⟩
/-- .. as values -/
theorem XE.one {op : BoolOp} (h : XE K X a δ k) : XE K X (.BoolOp op [a] pos) δ k := fun wa G H σ Q wd en hq => by
  obtain ⟨t, p, q⟩ := h wa G H σ Q wd en hq
  exact ⟨t, fun i => pe_one (p i), q⟩
theorem XE.and {rest : List Expr} (h : XE K X a δ fun d => ∃ c, d = .bool c ∧ if c = true then XE K X (.BoolOp .And (b :: rest) pos) δ k else k (.bool false)) : XE K X (.BoolOp .And (a :: b :: rest) pos) δ k := fun wa G H σ Q wd en hq =>
  ⟨_, fun i => pe_and (rE_ok X a i) (rE_ok X _ i), h wa G H σ _ wd en fun v d G1 H1 l r h => by
    obtain ⟨c, rfl, h⟩ := h
    refine ⟨c, rp_bool r, ?_⟩
    cases c with
    | true => exact (show XE K X (.BoolOp .And (b :: rest) pos) δ k from h) wa G1 H1 σ Q l.wd (en.mono (l.same wd)) fun v d G2 H2 l2 r2 h2 => hq v d G2 H2 (l.trans l2) r2 h2
    | false => exact hq _ _ G1 H1 l (.inl (.bl _)) h⟩
theorem XE.or {rest : List Expr} (h : XE K X a δ fun d => ∃ c, d = .bool c ∧ if c = true then k (.bool true) else XE K X (.BoolOp .Or (b :: rest) pos) δ k) : XE K X (.BoolOp .Or (a :: b :: rest) pos) δ k := fun wa G H σ Q wd en hq =>
  ⟨_, fun i => pe_or (rE_ok X a i) (rE_ok X _ i), h wa G H σ _ wd en fun v d G1 H1 l r h => by
    obtain ⟨c, rfl, h⟩ := h
    refine ⟨c, rp_bool r, ?_⟩
    cases c with
    | true => exact hq _ _ G1 H1 l (.inl (.bl _)) h
    | false => exact (show XE K X (.BoolOp .Or (b :: rest) pos) δ k from h) wa G1 H1 σ Q l.wd (en.mono (l.same wd)) fun v d G2 H2 l2 r2 h2 => hq v d G2 H2 (l.trans l2) r2 h2⟩
theorem XE.not (h : XE K X a δ fun d => ∃ c, d = .bool c ∧ k (.bool (!c))) : XE K X (.UnaryOp .Not a pos) δ k := fun wa G H σ Q wd en hq =>
  ⟨_, fun i => pe_not (rE_ok X a i), h wa G H σ _ wd en fun v d G1 H1 l r h => by
    obtain ⟨c, rfl, h⟩ := h
    exact ⟨c, rp_bool r, hq _ _ G1 H1 l (.inl (.bl _)) h⟩⟩
theorem XE.ite (h : XT K X c δ fun z => if z = true then XE K X a δ k else XE K X b δ k) : XE K X (.IfExp c a b pos) δ k := fun wa G H σ Q wd en hq =>
  ⟨_, fun i => pe_ifExp (rT_ok X c i) (rE_ok X a i) (rE_ok X b i), h wa G H σ _ wd en fun z G1 H1 l h => by
    cases z with
    | true => exact (show XE K X a δ k from h) wa G1 H1 σ Q l.wd (en.mono (l.same wd)) fun v d G2 H2 l2 r2 h2 => hq v d G2 H2 (l.trans l2) r2 h2
    | false => exact (show XE K X b δ k from h) wa G1 H1 σ Q l.wd (en.mono (l.same wd)) fun v d G2 H2 l2 r2 h2 => hq v d G2 H2 (l.trans l2) r2 h2⟩
/-- a < b < c of ints -/
theorem chain_ok {op op' : CmpOp} {g g' : Int → Int → Bool} (ho : ∀ i, OpR (X i) (compareOp op) (rI0 fun i j => .bl (g i j))) (ho' : ∀ i, OpR (X i) (compareOp op') (rI0 fun i j => .bl (g' i j))) (hm : lastMarks [op, op'] [b, c] = false)
    (ha : XE K X a δ fun d1 => XE K X b δ fun d2 => ∃ i j, d1 = .int i ∧ d2 = .int j ∧ if g i j = true then XE K X c δ fun d3 => ∃ l, d3 = .int l ∧ k (.bool (g' j l)) else k (.bool false)) : XE K X (.Compare a [op, op'] [b, c] pos) δ k := fun wa G H σ Q wd en hq =>
  ⟨_, fun i => pe_chain (ho i) (ho' i) (rE_ok X a i) (rE_ok X b i) (rE_ok X c i) hm, ha wa G H σ _ wd en fun x d1 G1 H1 l1 r1 h1 => h1 wa G1 H1 σ _ l1.wd (en.mono (l1.same wd)) fun y d2 G2 H2 l2 r2 h2 => by
    obtain ⟨i, j, rfl, rfl, h2⟩ := h2
    refine ⟨i, j, rp_int r1, rp_int r2, g i j, rfl, ?_⟩
    cases hg : g i j with
    | false =>
      rw [hg] at h2
      exact hq _ _ G2 H2 (l1.trans l2) (.inl (.bl _)) h2
    | true =>
      rw [hg] at h2
      exact (show XE K X c δ _ from h2) wa G2 H2 σ _ l2.wd (en.mono ((l1.trans l2).same wd)) fun z d3 G3 H3 l3 r3 h3 => by
        obtain ⟨l, rfl, h3⟩ := h3
        exact ⟨j, l, rp_int r2, rp_int r3, hq _ _ G3 H3 (l1.trans (l2.trans l3)) (.inl (.bl _)) h3⟩⟩
theorem chain_t {op op' : CmpOp} {g g' : Int → Int → Bool} (ho : ∀ i, OpR (X i) (compareOp op) (rI0 fun i j => .bl (g i j))) (ho' : ∀ i, OpR (X i) (compareOp op') (rI0 fun i j => .bl (g' i j))) (hm : lastMarks [op, op'] [b, c] = false)
    (ha : XE K X a δ fun d1 => XE K X b δ fun d2 => ∃ i j, d1 = .int i ∧ d2 = .int j ∧ if g i j = true then XE K X c δ fun d3 => ∃ l, d3 = .int l ∧ kt (g' j l) else kt false) : XT K X (.Compare a [op, op'] [b, c] pos) δ kt := fun wa G H σ Q wd en hq =>
  ⟨_, fun i => pt_chain (ho i) (ho' i) (rE_ok X a i) (rE_ok X b i) (rE_ok X c i) hm, ha wa G H σ _ wd en fun x d1 G1 H1 l1 r1 h1 => h1 wa G1 H1 σ _ l1.wd (en.mono (l1.same wd)) fun y d2 G2 H2 l2 r2 h2 => by
    obtain ⟨i, j, rfl, rfl, h2⟩ := h2
    refine ⟨i, j, rp_int r1, rp_int r2, g i j, rfl, ?_⟩
    cases hg : g i j with
    | false =>
      rw [hg] at h2
      exact ⟨false, rfl, hq _ G2 H2 (l1.trans l2) h2⟩
    | true =>
      rw [hg] at h2
      exact (show XE K X c δ _ from h2) wa G2 H2 σ _ l2.wd (en.mono ((l1.trans l2).same wd)) fun z d3 G3 H3 l3 r3 h3 => by
        obtain ⟨l, rfl, h3⟩ := h3
        exact ⟨j, l, rp_int r2, rp_int r3, _, rfl, hq _ G3 H3 (l1.trans (l2.trans l3)) h3⟩⟩
theorem XT.lele (ha : XE K X a δ fun d1 => XE K X b δ fun d2 => ∃ i j, d1 = .int i ∧ d2 = .int j ∧ if decide (i ≤ j) = true then XE K X c δ fun d3 => ∃ l, d3 = .int l ∧ kt (decide (j ≤ l)) else kt false) (hm : lastMarks [.LtE, .LtE] [b, c] = false := by with_unfolding_all rfl) :
    XT K X (.Compare a [.LtE, .LtE] [b, c] pos) δ kt := chain_t (g := fun i j => decide (i ≤ j)) (g' := fun i j => decide (i ≤ j)) (fun _ => op_le) (fun _ => op_le) hm ha
theorem XE.lele (ha : XE K X a δ fun d1 => XE K X b δ fun d2 => ∃ i j, d1 = .int i ∧ d2 = .int j ∧ if decide (i ≤ j) = true then XE K X c δ fun d3 => ∃ l, d3 = .int l ∧ k (.bool (decide (j ≤ l))) else k (.bool false)) (hm : lastMarks [.LtE, .LtE] [b, c] = false := by with_unfolding_all rfl) :
    XE K X (.Compare a [.LtE, .LtE] [b, c] pos) δ k := chain_ok (g := fun i j => decide (i ≤ j)) (g' := fun i j => decide (i ≤ j)) (fun _ => op_le) (fun _ => op_le) hm ha
theorem XT.ltlt (ha : XE K X a δ fun d1 => XE K X b δ fun d2 => ∃ i j, d1 = .int i ∧ d2 = .int j ∧ if decide (i < j) = true then XE K X c δ fun d3 => ∃ l, d3 = .int l ∧ kt (decide (j < l)) else kt false) (hm : lastMarks [.Lt, .Lt] [b, c] = false := by with_unfolding_all rfl) :
    XT K X (.Compare a [.Lt, .Lt] [b, c] pos) δ kt := chain_t (g := fun i j => decide (i < j)) (g' := fun i j => decide (i < j)) (fun _ => op_lt) (fun _ => op_lt) hm ha

/-! ### argument lists, displays -/
theorem XA.nil {kl : List PyData → Prop} (h : kl []) : XA K X [] δ kl := fun wa G H σ Q wd en hq => ⟨_, fun _ => pa_nil, hq [] [] G H (Le.refl wd) .nil h⟩
theorem XA.cons {es : List Expr} {kl : List PyData → Prop} (h : XE K X e δ fun d => XA K X es δ fun ds => kl (d :: ds)) (hs : ∀ i, starEach (e :: es) (X i).env = (false, eval e (X i).env) :: starEach es (X i).env := by intro _; rfl) : XA K X (e :: es) δ kl := fun wa G H σ Q wd en hq =>
  ⟨_, fun i => pa_cons (rE_ok X e i) (rA_ok X es i) (hs i), h wa G H σ _ wd en fun v d G1 H1 l1 r1 h1 => h1 wa G1 H1 σ _ l1.wd (en.mono (l1.same wd)) fun vs ds G2 H2 l2 r2 h2 => hq _ _ G2 H2 (l1.trans l2) (.cons (r1.mono (l2.same l1.wd)) r2) h2⟩
theorem small {n : Nat} (h : n ≤ 1000000) : n ≤ sizeLine := Nat.le_trans h (by rw [sizeLine_eq]; decide)
theorem Rps.len {wa : Addr} {G : Hp} {vs : List V} {ds : List PyData} (h : Rps K wa G vs ds) : vs.length = ds.length := Paired.length h
theorem XE.tup {es : List Expr} {x1 : Nat} (h : XA K X es δ fun ds => (∀ d ∈ ds, Dt d) ∧ ds.length ≤ 1000000 ∧ k (.tuple ds)) : XE K X (.Tuple es x1 pos) δ k := fun wa G H σ Q wd en hq =>
  ⟨_, fun i => pe_tup (rA_ok X es i), h wa G H σ _ wd en fun vs ds G1 H1 l r h => ⟨by rw [r.len]; exact small h.2.1, fun p hp =>
    hq _ _ _ _ (l.trans (Le.new l.wd hp)) (.inl (.tup upd_same (dqAll_mono (same_new (l.wd.fresh hp) _) _ _ (dqAll_of r h.1)))) h.2.2⟩⟩
theorem XE.lst {es : List Expr} (h : XA K X es δ fun ds => (∀ d ∈ ds, Dt d) ∧ ds.length ≤ 1000000 ∧ k (.list ds)) : XE K X (.List es pos) δ k := fun wa G H σ Q wd en hq =>
  ⟨_, fun i => pe_lst (rA_ok X es i), h wa G H σ _ wd en fun vs ds G1 H1 l r h => ⟨by rw [r.len]; exact small h.2.1, fun p hp =>
    hq _ _ _ _ (l.trans (Le.new l.wd hp)) (.inl (.lst upd_same (dqAll_mono (same_new (l.wd.fresh hp) _) _ _ (dqAll_of r h.1)))) h.2.2⟩⟩
end
end K19
set_option maxHeartbeats 4000000
/-! Expressions over data: +, *, subscripts, slices, in, built-ins. -/
namespace K19
open PySem PySem.Spec PyProof.Rows L2

/-- ds[lo:hi] -/
def cutD (ds : List PyData) (lo hi : Option Int) : List PyData := (ds.drop (HT.sIx ds.length 0 lo)).take (HT.sIx ds.length ds.length hi - HT.sIx ds.length 0 lo)
theorem dq_cut {G : Hp} {xs : List V} {ds : List PyData} (h : DqAll G xs ds) (lo hi : Option Int) : DqAll G (cutV xs lo hi) (cutD ds lo hi) := by
  unfold cutV cutD
  rw [dqAll_len h]
  exact dqAll_take _ (dqAll_drop _ h)
theorem cut_whole {ds : List PyData} {lo hi : Option Int} (h : HT.sIx ds.length 0 lo = 0 ∧ HT.sIx ds.length ds.length hi = ds.length) : cutD ds lo hi = ds := by
  unfold cutD
  rw [h.1, h.2]
  simp
theorem cut_to {ds : List PyData} {m : Nat} (h : m ≤ ds.length) : cutD ds none (some (m : Int)) = ds.take m := by
  unfold cutD
  rw [HT.sIx_none, HT.sIx_nat, Nat.min_eq_left h]
  simp
theorem cut_from {ds : List PyData} {m : Nat} (h : m ≤ ds.length) : cutD ds (some (m : Int)) none = ds.drop m := by
  unfold cutD
  rw [HT.sIx_none, HT.sIx_nat, Nat.min_eq_left h]
  rw [List.take_of_length_le (by rw [List.length_drop]; exact Nat.le_refl _)]
theorem cut_mid {ds : List PyData} {l m : Nat} (hl : l ≤ ds.length) (hm : m ≤ ds.length) : cutD ds (some (l : Int)) (some (m : Int)) = (ds.drop l).take (m - l) := by
  unfold cutD
  rw [HT.sIx_nat, HT.sIx_nat, Nat.min_eq_left hl, Nat.min_eq_left hm]

section
variable {ι : Type} {K : PySem.W.Frag} {X : ι → Cx} {e a b c : Expr} {δ : DS} {pos : Pos} {P : Program} {w : World} {mg : Str → Option Value} {base : Heap} {N : List Str} {sc : Scope} {n : Nat} {k : PyData → Prop} {kt : Bool → Prop}

/-! ### + of ints, texts, lists, tuples; tuple * int -/
def AddK (d1 d2 : PyData) (k : PyData → Prop) : Prop :=
  (∃ i j, d1 = .int i ∧ d2 = .int j ∧ k (.int (i + j))) ∨ (∃ x y, d1 = .str x ∧ d2 = .str y ∧ x.length + y.length ≤ 1000000 ∧ k (.str (x ++ y))) ∨
    (∃ xs ys, d1 = .list xs ∧ d2 = .list ys ∧ xs.length + ys.length ≤ 1000000 ∧ k (.list (xs ++ ys))) ∨ (∃ xs ys, d1 = .tuple xs ∧ d2 = .tuple ys ∧ xs.length + ys.length ≤ 1000000 ∧ k (.tuple (xs ++ ys)))
def rStrAdd : R2 := fun x y H Q => ∃ i j, x = .str i ∧ y = .str j ∧ i.length + j.length ≤ sizeLine ∧ Q (.str (i ++ j)) H
def rAddX (K : PySem.W.Frag) : R2 := fun x y H Q => rI0 (fun i j => .int (i + j)) x y H Q ∨ rStrAdd x y H Q ∨ rCat x y H Q ∨ rCatA K x y H Q
theorem op_addX (f : Fm P w K mg base N sc n X) (i : ι) : OpR (X i) (binaryOp .Add) (rAddX K) := by
  have h := (op_add (X := X i)).or ((show OpR (X i) (binaryOp .Add) rStrAdd from op_add_str).or ((op_cat (X := X i)).or (op_catA (X := X i))))
  rw [f.K_ i] at h
  exact h
theorem rd_add {d1 d2 : PyData} (h : AddK d1 d2 k) : RD K (rAddX K) d1 d2 k := fun wa G H x y Q wd r1 r2 hq => by
  rcases h with ⟨i, j, rfl, rfl, h⟩ | ⟨i, j, rfl, rfl, hz, h⟩ | ⟨xs, ys, rfl, rfl, hz, h⟩ | ⟨xs, ys, rfl, rfl, hz, h⟩
  · exact .inl ⟨i, j, rp_int r1, rp_int r2, hq _ _ G H (Le.refl wd) (.inl (.int _)) h⟩
  · exact .inr (.inl ⟨i, j, rp_str r1, rp_str r2, small hz, hq _ _ G H (Le.refl wd) (.inl (.str _)) h⟩)
  · obtain ⟨l1, v1, rfl, g1, q1⟩ := rp_list r1
    obtain ⟨l2, v2, rfl, g2, q2⟩ := rp_list r2
    refine .inr (.inr (.inl ⟨l1, l2, v1, v2, rfl, rfl, wd.sub _ _ g1, wd.sub _ _ g2, by rw [dqAll_len q1, dqAll_len q2]; exact small hz, fun p hp => ?_⟩))
    exact hq _ _ _ _ (Le.new wd hp) (.inl (.lst upd_same (dqAll_mono (same_new (wd.fresh hp) _) _ _ (dqAll_app q1 q2)))) h
  · obtain ⟨l1, v1, rfl, g1, q1⟩ := rp_tuple r1
    obtain ⟨l2, v2, rfl, g2, q2⟩ := rp_tuple r2
    refine .inr (.inr (.inr ⟨l1, l2, v1, v2, rfl, rfl, SqT.of (wd.sub _ _ g1), SqT.of (wd.sub _ _ g2), by rw [dqAll_len q1, dqAll_len q2]; exact small hz, fun e => ?_, fun _ e => ?_, fun _ _ p hp => ?_⟩))
    · subst e
      cases q1
      exact hq _ _ G H (Le.refl wd) (.inl (.tup g2 q2)) h
    · subst e
      cases q2
      rw [List.append_nil] at h
      exact hq _ _ G H (Le.refl wd) (.inl (.tup g1 q1)) h
    · exact hq _ _ _ _ (Le.new wd hp) (.inl (.tup upd_same (dqAll_mono (same_new (wd.fresh hp) _) _ _ (dqAll_app q1 q2)))) h
theorem XE.plus (f : Fm P w K mg base N sc n X) (ha : XE K X a δ fun d1 => XE K X b δ fun d2 => AddK d1 d2 k) : XE K X (.BinOp a .Add b pos) δ k := XE.op (op_addX f) (ha.imp fun _ h => h.imp fun _ h => rd_add h)
theorem dqAll_rep {G : Hp} {vs : List V} {ds : List PyData} (h : DqAll G vs ds) : ∀ m : Nat, DqAll G (List.replicate m vs).flatten (List.replicate m ds).flatten
  | 0 => .nil
  | m + 1 => by
    rw [List.replicate_succ, List.replicate_succ, List.flatten_cons, List.flatten_cons]
    exact dqAll_app h (dqAll_rep h m)
theorem XE.rep (f : Fm P w K mg base N sc n X) (ha : XE K X a δ fun d1 => XE K X b δ fun d2 => ∃ ds m, d1 = .tuple ds ∧ d2 = .int m ∧ ds ≠ [] ∧ 2 ≤ m ∧ m ≤ 1000 ∧ ds.length ≤ 1000 ∧ k (.tuple (List.replicate m.toNat ds).flatten)) : XE K X (.BinOp a .Mult b pos) δ k :=
  XE.op (r := rRepT K) (fun i => by have h := op_repT (X := X i); rw [f.K_ i] at h; exact h) (ha.imp fun _ z0 => z0.imp fun _ ⟨ds, m, e1, e2, hn, h1, h2, hz, kk⟩ => fun wa G H x y Q wd r1 r2 hq => by
    subst e1
    subst e2
    obtain ⟨l1, v1, rfl, g1, q1⟩ := rp_tuple r1
    refine ⟨l1, m, v1, rfl, rp_int r2, SqT.of (wd.sub _ _ g1), fun z => hn ?_, h1, h2, by rw [dqAll_len q1]; exact hz, fun p hp => ?_⟩
    · subst z
      cases q1
      rfl
    · exact hq _ _ _ _ (Le.new wd hp) (.inl (.tup upd_same (dqAll_mono (same_new (wd.fresh hp) _) _ _ (dqAll_rep q1 _)))) kk)

/-! ### subscripts -/
def IxK (d1 d2 : PyData) (k : PyData → Prop) : Prop :=
  (∃ ds i d, (d1 = .tuple ds ∨ d1 = .list ds) ∧ d2 = .int i ∧ atI ds i = some d ∧ k d) ∨ (d1 = wel ∧ ∃ i : Int, d2 = .int i ∧ 0 ≤ i ∧ i < 3 ∧ ∀ z : Int, k (.int z))
theorem dq_at {G : Hp} {vs : List V} {ds : List PyData} {i : Int} {d : PyData} (h : DqAll G vs ds) (e : atI ds i = some d) : ∃ v, atI vs i = some v ∧ Dq G v d := by
  unfold atI at e ⊢
  rw [dqAll_len h]
  cases q : ixN ds.length i with
  | none =>
    rw [q] at e
    cases e
  | some j =>
    rw [q] at e
    exact dqAll_get h e
theorem at_lt {α : Type} {xs : List α} {i : Int} (h0 : 0 ≤ i) {d : α} (e : xs[i.toNat]? = some d) : atI xs i = some d := by
  have q := atI_nat (xs := xs) (j := i.toNat) e
  rw [Int.toNat_of_nonneg h0] at q
  exact q
def rIxX (K : PySem.W.Frag) : R2 := fun x y H Q => rIxL K x y H Q ∨ rIxT K x y H Q
theorem XE.ix (f : Fm P w K mg base N sc n X) (ha : XE K X a δ fun d1 => XE K X b δ fun d2 => IxK d1 d2 k) (hs : PlainIx b := by intro _ _; rfl) : XE K X (.Subscript a b pos) δ k := fun wa G H σ Q wd en hq =>
  ⟨tOp (rIxX K) (rE X a) (rE X b), fun i => by
    have h := pe_ix (X := X i) (pos := pos) ((ix_list (X := X i)).or (ix_tup (X := X i))) (rE_ok X a i) (rE_ok X b i) hs
    rw [f.K_ i] at h
    exact h, two (k := k) (ha.imp fun _ z0 => z0.imp fun _ z1 => fun wa G H x y Q wd r1 r2 hq => by
    rcases z1 with ⟨ds, i, d, e1, rfl, hi, kk⟩ | ⟨rfl, i, rfl, h0, h3, kk⟩
    · rcases e1 with rfl | rfl
      · obtain ⟨l1, v1, rfl, g1, q1⟩ := rp_tuple r1
        obtain ⟨v, hv, rv⟩ := dq_at q1 hi
        exact .inr ⟨l1, v1, i, v, rfl, rp_int r2, SqT.of (wd.sub _ _ g1), hv, hq _ _ G H (Le.refl wd) (.inl rv) kk⟩
      · obtain ⟨l1, v1, rfl, g1, q1⟩ := rp_list r1
        obtain ⟨v, hv, rv⟩ := dq_at q1 hi
        exact .inl ⟨l1, v1, i, v, rfl, rp_int r2, SqL.of (wd.sub _ _ g1), hv, hq _ _ G H (Le.refl wd) (.inl rv) kk⟩
    · obtain ⟨x0, x1, x2, hw⟩ := wd.well
      have hi : ∃ z : Int, atI [V.int x0, V.int x1, V.int x2] i = some (.int z) := by
        have e3 : i = 0 ∨ i = 1 ∨ i = 2 := by omega
        rcases e3 with rfl | rfl | rfl
        · exact ⟨x0, rfl⟩
        · exact ⟨x1, rfl⟩
        · exact ⟨x2, rfl⟩
      obtain ⟨z, hz⟩ := hi
      exact .inl ⟨wa, _, i, _, rp_wel r1, rp_int r2, SqL.of hw, hz, hq _ _ G H (Le.refl wd) (.inl (.int z)) (kk z)⟩) wd en hq⟩

/-! ### slices -/
theorem XO.none {ko : Option Int → Prop} (h : ko none) : XO K X none δ ko := fun wa G H σ Q wd en hq => ⟨_, fun _ => po_none, hq _ G H (Le.refl wd) h⟩
theorem XO.some {ko : Option Int → Prop} (h : XE K X e δ fun d => ∃ i, d = .int i ∧ ko (some i)) : XO K X (some e) δ ko := fun wa G H σ Q wd en hq =>
  ⟨_, fun i => po_some (rE_ok X e i), h wa G H σ _ wd en fun v d G1 H1 l r h => by
    obtain ⟨i, rfl, h⟩ := h
    exact ⟨i, rp_int r, hq _ G1 H1 l h⟩⟩
def SlK (d : PyData) (lo hi : Option Int) (k : PyData → Prop) : Prop :=
  (∃ ds, d = .tuple ds ∧ k (.tuple (cutD ds lo hi))) ∨ (∃ ds, d = .list ds ∧ k (.list (cutD ds lo hi))) ∨ (∃ z, d = .str z ∧ z.length ≤ 1000000 ∧ k (.str (cutS z lo hi)))
theorem XE.slice {lo hi : Option Expr} {p2 : Pos} (f : Fm P w K mg base N sc n X) (h : XE K X e δ fun d => XO K X lo δ fun l => XO K X hi δ fun u => SlK d l u k) : XE K X (.Subscript e (.Slice lo hi none p2) pos) δ k := fun wa G H σ Q wd en hq =>
  ⟨tSl (fun x lo hi H Q => rSlA K x lo hi H Q ∨ rSlL K x lo hi H Q ∨ rSlS x lo hi H Q) (rE X e) (rO X lo) (rO X hi), fun i => by
    have h := pe_slice (X := X i) (pos := pos) (p2 := p2) ((sl_tupA (X := X i)).or ((sl_list (X := X i)).or (sl_str (X := X i)))) (rE_ok X e i) (rO_ok X lo i) (rO_ok X hi i)
    rw [f.K_ i] at h
    exact h, h wa G H σ _ wd en fun x d G1 H1 l1 r1 h1 => h1 wa G1 H1 σ _ l1.wd (en.mono (l1.same wd)) fun l G2 H2 l2 h2 => h2 wa G2 H2 σ _ l2.wd (en.mono ((l1.trans l2).same wd)) fun u G3 H3 l3 h3 => by
      have le := l1.trans (l2.trans l3)
      have r3 := r1.mono ((l2.trans l3).same l1.wd)
      rcases h3 with ⟨ds, rfl, h3⟩ | ⟨ds, rfl, h3⟩ | ⟨z, rfl, hz, h3⟩
      · obtain ⟨p1, v1, rfl, g1, q1⟩ := rp_tuple r3
        refine .inl ⟨p1, v1, rfl, SqT.of (l3.wd.sub _ _ g1), fun hw => ?_, fun _ p hp => ?_⟩
        · rw [dqAll_len q1] at hw
          rw [cut_whole hw] at h3
          exact hq _ _ G3 H3 le (.inl (.tup g1 q1)) h3
        · exact hq _ _ _ _ (le.trans (Le.new l3.wd hp)) (.inl (.tup upd_same (dqAll_mono (same_new (l3.wd.fresh hp) _) _ _ (dq_cut q1 l u)))) h3
      · obtain ⟨p1, v1, rfl, g1, q1⟩ := rp_list r3
        exact .inr (.inl ⟨p1, v1, rfl, SqL.of (l3.wd.sub _ _ g1), fun p hp => hq _ _ _ _ (le.trans (Le.new l3.wd hp)) (.inl (.lst upd_same (dqAll_mono (same_new (l3.wd.fresh hp) _) _ _ (dq_cut q1 l u)))) h3⟩)
      · exact .inr (.inr ⟨z, rp_str r3, small hz, hq _ _ G3 H3 le (.inl (.str _)) h3⟩)⟩

/-! ### in, not in -/
def InK (d1 d2 : PyData) (kt : Bool → Prop) : Prop :=
  (∃ (s : Str) (ss : List Str), d1 = .str s ∧ (d2 = .list (ss.map .str) ∨ d2 = .tuple (ss.map .str) ∨ d2 = kon ss) ∧ kt (decide (s ∈ ss))) ∨ (∃ (i : Int) (js : List Int), d1 = .int i ∧ d2 = .list (js.map .int) ∧ kt (decide (i ∈ js))) ∨
    (∃ ds, d2 = .tuple ds ∧ SeqAt.shaped d1 = true ∧ SeqAt.shaped d2 = true ∧ kt (ds.any fun z => PyData.eqv z d1))
theorem inV_str (s : Str) : ∀ ss : List Str, inV (.str s) (ss.map V.str) = decide (s ∈ ss)
  | [] => rfl
  | t :: ss => by
    show (eqV (.str t) (.str s) || inV (.str s) (ss.map V.str)) = _
    rw [inV_str s ss]
    by_cases e : s = t
    · subst e
      simp [eqV]
    · have e' : ¬ t = s := fun z => e z.symm
      simp [eqV, e, e']
theorem inV_int (s : Int) : ∀ ss : List Int, inV (.int s) (ss.map V.int) = decide (s ∈ ss)
  | [] => rfl
  | t :: ss => by
    show (eqV (.int t) (.int s) || inV (.int s) (ss.map V.int)) = _
    rw [inV_int s ss]
    by_cases e : s = t
    · subst e
      simp [eqV]
    · have e' : ¬ t = s := fun z => e z.symm
      simp [eqV, e, e']
theorem flat_strs (ss : List Str) : (ss.map V.str).all flatV = true := by
  induction ss with
  | nil => rfl
  | cons _ _ ih => exact ih
theorem flat_ints (ss : List Int) : (ss.map V.int).all flatV = true := by
  induction ss with
  | nil => rfl
  | cons _ _ ih => exact ih
theorem dq_strs {G : Hp} : ∀ {ss : List Str} {vs : List V}, DqAll G vs (ss.map .str) → vs = ss.map V.str
  | [], _, h => by cases h; rfl
  | s :: ss, _, h => by
    cases h with
    | cons r t =>
      cases r
      rw [dq_strs t]
      rfl
theorem dq_ints {G : Hp} : ∀ {ss : List Int} {vs : List V}, DqAll G vs (ss.map .int) → vs = ss.map V.int
  | [], _, h => by cases h; rfl
  | s :: ss, _, h => by
    cases h with
    | cons r t =>
      cases r
      rw [dq_ints t]
      rfl
theorem dq_bools {G : Hp} : ∀ {ss : List Bool} {vs : List V}, DqAll G vs (ss.map .bool) → vs = ss.map V.bl
  | [], _, h => by cases h; rfl
  | s :: ss, _, h => by
    cases h with
    | cons r t =>
      cases r
      rw [dq_bools t]
      rfl
def rInT (K : PySem.W.Frag) : R2 := fun x y H Q => ∃ d ds, Dp K H x d ∧ Dp K H y (.tuple ds) ∧ SeqAt.shaped d = true ∧ SeqAt.shaped (.tuple ds) = true ∧ Q (.bl (ds.any fun z => PyData.eqv z d)) H
theorem op_inT {X : Cx} (hu : X.A.units + 65 < cLine) : OpR X (compareOp .In) (rInT X.K) := by
  intro pins s σ H x y v u Q I rx ry h
  obtain ⟨d, ds, hd, he, sd, se, q⟩ := h
  obtain ⟨as, r1⟩ := Dp.reads I d x v hd rx
  obtain ⟨bs, r2⟩ := Dp.reads I (.tuple ds) y u he ry
  have h2 : d.depth ≤ 64 := SeqAt.depth_of_shaped sd
  have hr : X.A.units + 1 + min (PyData.depthAll ds) d.depth < cLine := by
    have := Nat.min_le_right (PyData.depthAll ds) d.depth
    omega
  exact SeqAt.in_tuple_reads r2 r1 (SeqAt.canLay_of_shaped se) (SeqAt.canLay_of_shaped sd) hr ⟨.bl _, H, I, rfl, q⟩
def rInX (K : PySem.W.Frag) : R2 := fun x y H Q => rIn K false x y H Q ∨ rInT K x y H Q
theorem op_inX (f : Fm P w K mg base N sc n X) (i : ι) : OpR (X i) (compareOp .In) (rInX K) := by
  have h := (op_in_seq (X := X i)).or (op_inT (X := X i) (by have := (f.room i).un; omega))
  rw [f.K_ i] at h
  exact h
theorem rd_in {neg : Bool} {d1 d2 : PyData} (h : (∃ (s : Str) (ss : List Str), d1 = .str s ∧ (d2 = .list (ss.map .str) ∨ d2 = .tuple (ss.map .str) ∨ d2 = kon ss) ∧ k (.bool (if neg then !decide (s ∈ ss) else decide (s ∈ ss)))) ∨ (∃ (i : Int) (js : List Int), d1 = .int i ∧ d2 = .list (js.map .int) ∧ k (.bool (if neg then !decide (i ∈ js) else decide (i ∈ js))))) : RD K (rIn K neg) d1 d2 k := fun wa G H x y Q wd r1 r2 hq => by
  rcases h with ⟨s, ss, rfl, e2, h⟩ | ⟨s, ss, rfl, rfl, h⟩
  · have hy : ∃ p, y = .ref p ∧ (SqL K H p (ss.map V.str) ∨ SqT K H p (ss.map V.str)) := by
      rcases e2 with rfl | rfl | rfl
      · obtain ⟨p, vs, rfl, g, q⟩ := rp_list r2
        rw [dq_strs q] at g
        exact ⟨p, rfl, .inl (SqL.of (wd.sub _ _ g))⟩
      · obtain ⟨p, vs, rfl, g, q⟩ := rp_tuple r2
        rw [dq_strs q] at g
        exact ⟨p, rfl, .inr (SqT.of (wd.sub _ _ g))⟩
      · obtain ⟨p, rfl, q⟩ := rp_kon r2
        exact ⟨p, rfl, .inr (q H)⟩
    obtain ⟨p, rfl, hp⟩ := hy
    rw [rp_str r1]
    refine ⟨p, _, rfl, hp, rfl, flat_strs ss, ?_⟩
    rw [inV_str]
    exact hq _ _ G H (Le.refl wd) (.inl (.bl _)) h
  · obtain ⟨p, vs, rfl, g, q⟩ := rp_list r2
    rw [dq_ints q] at g
    rw [rp_int r1]
    refine ⟨p, _, rfl, .inl (SqL.of (wd.sub _ _ g)), rfl, flat_ints ss, ?_⟩
    rw [inV_int]
    exact hq _ _ G H (Le.refl wd) (.inl (.bl _)) h
theorem rd_inX {d1 d2 : PyData} (h : InK d1 d2 fun b => k (.bool b)) : RD K (rInX K) d1 d2 k := fun wa G H x y Q wd r1 r2 hq => by
  rcases h with h | h | ⟨ds, rfl, s1, s2, h⟩
  · exact .inl (rd_in (neg := false) (.inl h) wa G H x y Q wd r1 r2 hq)
  · exact .inl (rd_in (neg := false) (.inr h) wa G H x y Q wd r1 r2 hq)
  · exact .inr ⟨d1, ds, dp_of _ _ (dq_mono wd.sub _ _ (r1.dp (dt_shaped s1))), dp_of _ _ (dq_mono wd.sub _ _ (r2.dp (dt_shaped s2))), s1, s2, hq _ _ G H (Le.refl wd) (.inl (.bl _)) h⟩
theorem InK.imp {d1 d2 : PyData} {p q : Bool → Prop} (h : InK d1 d2 p) (g : ∀ b, p b → q b) : InK d1 d2 q := by
  rcases h with ⟨i, j, e1, e2, h⟩ | ⟨i, j, e1, e2, h⟩ | ⟨ds, e, h1, h2, h⟩
  · exact .inl ⟨i, j, e1, e2, g _ h⟩
  · exact .inr (.inl ⟨i, j, e1, e2, g _ h⟩)
  · exact .inr (.inr ⟨ds, e, h1, h2, g _ h⟩)
theorem XE.isin (f : Fm P w K mg base N sc n X) (ha : XE K X a δ fun d1 => XE K X b δ fun d2 => InK d1 d2 fun z => k (.bool z)) (hm : behindInMarks .In b = false := by with_unfolding_all rfl) : XE K X (.Compare a [.In] [b] pos) δ k :=
  XE.cmp (op_inX f) hm (ha.imp fun _ h => h.imp fun _ h => rd_inX h)
theorem XT.isin (f : Fm P w K mg base N sc n X) (ha : XE K X a δ fun d1 => XE K X b δ fun d2 => InK d1 d2 kt) (hm : behindInMarks .In b = false := by with_unfolding_all rfl) : XT K X (.Compare a [.In] [b] pos) δ kt :=
  XT.cmp (op_inX f) hm (ha.imp fun _ h => h.imp fun _ h => rd_inX (h.imp fun _ q => ⟨_, rfl, q⟩))
/-- not in, of texts -/
def NinK (d1 d2 : PyData) (kt : Bool → Prop) : Prop := ∃ (s : Str) (ss : List Str), d1 = .str s ∧ (d2 = .list (ss.map .str) ∨ d2 = .tuple (ss.map .str) ∨ d2 = kon ss) ∧ kt (!decide (s ∈ ss))
theorem XE.notin (f : Fm P w K mg base N sc n X) (ha : XE K X a δ fun d1 => XE K X b δ fun d2 => NinK d1 d2 fun z => k (.bool z)) (hm : behindInMarks .NotIn b = false := by with_unfolding_all rfl) : XE K X (.Compare a [.NotIn] [b] pos) δ k :=
  XE.cmp (r := rIn K true) (fun i => by have h := op_notIn_seq (X := X i); rw [f.K_ i] at h; exact h) hm (ha.imp fun _ h => h.imp fun _ ⟨s, ss, e1, e2, h⟩ => rd_in (neg := true) (.inl ⟨s, ss, e1, e2, h⟩))
theorem XT.notin (f : Fm P w K mg base N sc n X) (ha : XE K X a δ fun d1 => XE K X b δ fun d2 => NinK d1 d2 kt) (hm : behindInMarks .NotIn b = false := by with_unfolding_all rfl) : XT K X (.Compare a [.NotIn] [b] pos) δ kt :=
  XT.cmp (r := rIn K true) (fun i => by have h := op_notIn_seq (X := X i); rw [f.K_ i] at h; exact h) hm (ha.imp fun _ h => h.imp fun _ ⟨s, ss, e1, e2, h⟩ => rd_in (neg := true) (.inl ⟨s, ss, e1, e2, _, rfl, h⟩))
end
end K19
set_option maxHeartbeats 4000000
/-! Statements, targets, walks and comprehensions over data. -/
namespace K19
open PySem PySem.Spec PyProof.Rows L2

/-- the names' data, and the one list that is being filled: its name's place, its items -/
abbrev Sta := DS × Option (Nat × List PyData)
structure DEnds where
  nx : Sta → Prop
  rt : PyData → Prop
  bk : Sta → Prop := fun _ => False
  ct : Sta → Prop := fun _ => False
/-- from the entry (G0, H0) on; what of Gb is there stays -/
structure StInv (K : PySem.W.Frag) (wa : Addr) (G0 H0 Gb : Hp) (s : Sta) (σ : St) (G H : Hp) : Prop where
  le : Le wa G0 H0 G H
  gb : Same Gb G
  en : EnvOk K wa G σ s.1
  mu : ∀ i ds, s.2 = some (i, ds) → ∃ l vs, σ[i]? = some (some (.ref l)) ∧ l ≠ wa ∧ H0 l = none ∧ G l = none ∧ H l = some (.lst vs) ∧ DqAll G vs ds
structure DOk (K : PySem.W.Frag) (wa : Addr) (G0 H0 Gb : Hp) (E : DEnds) (D : Ends) : Prop where
  nx : ∀ s σ G H, StInv K wa G0 H0 Gb s σ G H → E.nx s → D.nx σ H
  bk : ∀ s σ G H, StInv K wa G0 H0 Gb s σ G H → E.bk s → D.bk σ H
  ct : ∀ s σ G H, StInv K wa G0 H0 Gb s σ G H → E.ct s → D.ct σ H
  rt : ∀ v d G H, Le wa G0 H0 G H → Rp K wa G v d → E.rt d → D.rt v H
section
variable {ι : Type} (K : PySem.W.Frag) (X : ι → Cx)
def XS (st : Stmt) (E : DEnds) (s : Sta) : Prop := ∀ (wa : Addr) (G0 H0 Gb : Hp) (σ : St) (G H : Hp) (D : Ends), StInv K wa G0 H0 Gb s σ G H → DOk K wa G0 H0 Gb E D → ∃ t : TS, (∀ i, PS (X i) st t) ∧ t D σ H
def XSs (st : List Stmt) (E : DEnds) (s : Sta) : Prop := ∀ (wa : Addr) (G0 H0 Gb : Hp) (σ : St) (G H : Hp) (D : Ends), StInv K wa G0 H0 Gb s σ G H → DOk K wa G0 H0 Gb E D → ∃ t : TS, (∀ i, PSs (X i) st t) ∧ t D σ H
/-- a list that is made here, not of G yet -/
def XL (e : Expr) (δ : DS) (k : List PyData → Prop) : Prop :=
  ∀ (wa : Addr) (G H : Hp) (σ : St) (Q : VK), Wd wa G H → EnvOk K wa G σ δ → (∀ p vs ds G' H', Le wa G H G' H' → H p = none → G' p = none → p ≠ wa → H' p = some (.lst vs) → DqAll G' vs ds → k ds → Q (.ref p) H') → ∃ t : TE, (∀ i, PE (X i) e t) ∧ t σ H Q
end
section
variable {ι : Type} {K : PySem.W.Frag} {X : ι → Cx} {e a b c : Expr} {δ : DS} {pos : Pos} {P : Program} {w : World} {mg : Str → Option Value} {base : Heap} {N : List Str} {sc : Scope} {n : Nat} {k : PyData → Prop} {kt : Bool → Prop} {E : DEnds} {s : Sta} {st : Stmt} {rest body : List Stmt} {wa : Addr} {G0 H0 Gb G H G' H' : Hp} {σ : St} {D : Ends}
def rS (X : ι → Cx) (st : Stmt) : TS := fun D σ H => ∃ t : TS, (∀ i, PS (X i) st t) ∧ t D σ H
theorem rS_ok (X : ι → Cx) (st : Stmt) (i : ι) : PS (X i) st (rS X st) := ⟨fun pins s σ H D I h => let ⟨_, p, q⟩ := h; (p i).run pins s σ H D I q⟩
def rSs (X : ι → Cx) (st : List Stmt) : TS := fun D σ H => ∃ t : TS, (∀ i, PSs (X i) st t) ∧ t D σ H
theorem rSs_ok (X : ι → Cx) (st : List Stmt) (i : ι) : PSs (X i) st (rSs X st) := ⟨fun pins s σ H D I h => let ⟨_, p, q⟩ := h; (p i).run pins s σ H D I q⟩
def rL (X : ι → Cx) (e : Expr) : TE := rE X e

theorem StInv.step (I : StInv K wa G0 H0 Gb s σ G H) (l : Le wa G H G' H') : StInv K wa G0 H0 Gb s σ G' H' := by
  have sm := l.same I.le.wd
  refine ⟨I.le.trans l, I.gb.trans sm, I.en.mono sm, fun i ds e => ?_⟩
  obtain ⟨p, vs, h1, h2, h3, h4, h5, h6⟩ := I.mu i ds e
  have hp : H p ≠ none := by
    rw [h5]
    exact fun z => nomatch z
  exact ⟨p, vs, h1, h2, h3, (l.kp p hp).trans h4, (l.fr p h2 hp).trans h5, dqAll_mono sm _ _ h6⟩
/-- the names change -/
theorem StInv.env (I : StInv K wa G0 H0 Gb s σ G H) {σ' : St} {δ' : DS} {js : List Nat} (en : EnvOk K wa G σ' δ') (h : ∀ i, i ∉ js → σ'[i]? = σ[i]?) (hm : ∀ i ds, s.2 = some (i, ds) → i ∉ js) : StInv K wa G0 H0 Gb (δ', s.2) σ' G H :=
  ⟨I.le, I.gb, en, fun i ds e => by
    obtain ⟨p, vs, h1, r⟩ := I.mu i ds e
    exact ⟨p, vs, (h i (hm i ds e)).trans h1, r⟩⟩
def dropM (j : Nat) : Option (Nat × List PyData) → Option (Nat × List PyData)
  | some (i, ds) => if i = j then none else some (i, ds)
  | none => none
theorem dropM_some {j i : Nat} {ds : List PyData} {m : Option (Nat × List PyData)} (h : dropM j m = some (i, ds)) : m = some (i, ds) ∧ i ≠ j := by
  cases m with
  | none => cases h
  | some q =>
    obtain ⟨x, y⟩ := q
    have h : (if x = j then none else some (x, y)) = some (i, ds) := h
    by_cases z : x = j
    · rw [if_pos z] at h
      cases h
    · rw [if_neg z] at h
      cases h
      exact ⟨rfl, z⟩
theorem StInv.set (I : StInv K wa G0 H0 Gb s σ G H) (j : Nat) {v : V} {d : PyData} (r : Rp K wa G v d) : StInv K wa G0 H0 Gb (s.1.set j (some d), dropM j s.2) (σ.set j (some v)) G H :=
  ⟨I.le, I.gb, I.en.set (slot_some r) j, fun i ds e => by
    obtain ⟨e1, ne⟩ := dropM_some e
    obtain ⟨p, vs, h1, r⟩ := I.mu i ds e1
    exact ⟨p, vs, by rw [List.getElem?_set_ne (Ne.symm ne)]; exact h1, r⟩⟩
theorem DOk.sub (d : DOk K wa G0 H0 Gb E D) {Gc : Hp} (e : Same Gb Gc) : DOk K wa G0 H0 Gc E D :=
  ⟨fun s σ G H I h => d.nx s σ G H ⟨I.le, e.trans I.gb, I.en, I.mu⟩ h, fun s σ G H I h => d.bk s σ G H ⟨I.le, e.trans I.gb, I.en, I.mu⟩ h, fun s σ G H I h => d.ct s σ G H ⟨I.le, e.trans I.gb, I.en, I.mu⟩ h, d.rt⟩

/-! ### blocks -/
theorem XSs.nil (h : E.nx s) : XSs K X [] E s := fun wa G0 H0 Gb σ G H D I d => ⟨_, fun _ => pss_nil, d.nx s σ G H I h⟩
theorem XSs.cons (h : XS K X st ⟨fun s' => XSs K X rest E s', E.rt, E.bk, E.ct⟩ s) : XSs K X (st :: rest) E s := fun wa G0 H0 Gb σ G H D I d =>
  ⟨tSeq (rS X st) (rSs X rest), fun i => pss_cons (rS_ok X st i) (rSs_ok X rest i), h wa G0 H0 Gb σ G H { D with nx := rSs X rest D } I ⟨fun s' σ' G' H' I' q => q wa G0 H0 Gb σ' G' H' D I' d, d.bk, d.ct, d.rt⟩⟩
theorem XS.set {x : Str} {j : Nat} {p2 : Pos} (f : Fm P w K mg base N sc n X) (hN : N.Nodup) (hi : N[j]? = some x) (hx : Loc sc x) (h : XE K X e s.1 fun d => E.nx (s.1.set j (some d), dropM j s.2))
    (hs : ∀ i, swapsWith e (some (.Name x p2)) pos.line (X i).env = pure false := by intro _; rfl) (hf : ∀ i, (X i).fn x = true ∨ (X i).env.scope.names.lookup x = some .local := by intro _; first | exact .inl rfl | exact .inr rfl) :
    XS K X (.Assign [.Name x p2] e pos) E s := fun wa G0 H0 Gb σ G H D I d =>
  ⟨tAsg (rE X e) (gName j), fun i => ps_set (by rw [f.N_ i]; exact hN) (by rw [f.N_ i]; exact hi) (by rw [f.sc_ i]; exact hx) (rE_ok X e i) (hs i) (hf i),
    h wa G H σ _ I.le.wd I.en fun v dd G1 H1 l r q => d.nx _ _ G1 H1 ((I.step l).set j r) q⟩
theorem XS.ret (h : XE K X e s.1 E.rt) : XS K X (.Return (some e) pos) E s := fun wa G0 H0 Gb σ G H D I d =>
  ⟨_, fun i => ps_ret (rE_ok X e i), h wa G H σ _ I.le.wd I.en fun v dd G1 H1 l r q => d.rt v dd G1 H1 (I.le.trans l) r q⟩
theorem XS.expr (h : XE K X e s.1 fun _ => E.nx s) (hs : ∀ i, swapsWith e none pos.line (X i).env = pure false := by intro _; rfl) : XS K X (.Expr e pos) E s := fun wa G0 H0 Gb σ G H D I d =>
  ⟨_, fun i => ps_expr (rE_ok X e i) (hs i), h wa G H σ _ I.le.wd I.en fun v dd G1 H1 l r q => d.nx s σ G1 H1 (I.step l) q⟩
theorem XS.ite {p q : List Stmt} (h : XT K X c s.1 fun z => if z = true then XSs K X p E s else XSs K X q E s) : XS K X (.If c p q pos) E s := fun wa G0 H0 Gb σ G H D I d =>
  ⟨_, fun i => ps_if (rT_ok X c i) (rSs_ok X p i) (rSs_ok X q i), h wa G H σ _ I.le.wd I.en fun z G1 H1 l h => by
    cases z with
    | true => exact (show XSs K X p E s from h) wa G0 H0 Gb σ G1 H1 D (I.step l) d
    | false => exact (show XSs K X q E s from h) wa G0 H0 Gb σ G1 H1 D (I.step l) d⟩
theorem XS.cont (h : E.ct s) : XS K X (.Continue pos) E s := fun wa G0 H0 Gb σ G H D I d => ⟨_, fun _ => ps_continue, d.ct s σ G H I h⟩
theorem XS.brk (h : E.bk s) : XS K X (.Break pos) E s := fun wa G0 H0 Gb σ G H D I d => ⟨_, fun _ => ps_break, d.bk s σ G H I h⟩

/-! ### targets -/
theorem XG.name {x : Str} {j : Nat} {d : PyData} {kd : DS → Prop} {js : List Nat} (f : Fm P w K mg base N sc n X) (hN : N.Nodup) (hi : N[j]? = some x) (hx : Loc sc x) (hj : j ∈ js) (h : kd (δ.set j (some d)))
    (hf : ∀ i, (X i).fn x = true ∨ (X i).env.scope.names.lookup x = some .local := by intro _; first | exact .inl rfl | exact .inr rfl) : XG K X (.Name x pos) d δ js kd := fun wa G H σ v R wd en r hq =>
  ⟨gName j, fun i => pg_name (by rw [f.N_ i]; exact hN) (by rw [f.N_ i]; exact hi) (by rw [f.sc_ i]; exact hx) (hf i), hq _ _ (en.set (slot_some r) j) (List.length_set ..) (fun i ni => List.getElem?_set_ne fun z => ni (by rw [← z]; exact hj)) h⟩
theorem XGs.nil {kd : DS → Prop} {js : List Nat} (h : kd δ) : XGs K X [] [] δ js kd := fun wa G H σ vs R wd en r hq => by
  cases r
  exact ⟨_, fun _ => pgs_nil, rfl, hq σ δ en rfl (fun _ _ => rfl) h⟩
theorem XGs.cons {tg : Expr} {tgs : List Expr} {d : PyData} {ds : List PyData} {kd : DS → Prop} {js : List Nat} (h : XG K X tg d δ js fun δ' => XGs K X tgs ds δ' js kd)
    (hs : ∀ i, (assignEach (tg :: tgs) (X i).env).map (·.2) = assign tg (X i).env :: (assignEach tgs (X i).env).map (·.2) := by intro _; rfl) : XGs K X (tg :: tgs) (d :: ds) δ js kd := fun wa G H σ vs R wd en r hq => by
  cases r with
  | cons r1 r2 =>
    refine ⟨gCons (rG X tg) (rGs X tgs), fun i => pgs_cons (rG_ok X tg i) (rGs_ok X tgs i) (hs i), _, _, rfl, h wa G H σ _ _ wd en r1 fun σ1 δ1 en1 l1 o1 h1 => ?_⟩
    exact h1 wa G H σ1 _ R wd en1 r2 fun σ2 δ2 en2 l2 o2 h2 => hq σ2 δ2 en2 (l2.trans l1) (fun i ni => (o2 i ni).trans (o1 i ni)) h2
theorem XG.tup {tgs : List Expr} {x1 : Nat} {d : PyData} {kd : DS → Prop} {js : List Nat} (f : Fm P w K mg base N sc n X) (h : ∃ ds, d = .tuple ds ∧ ds.length = tgs.length ∧ XGs K X tgs ds δ js kd)
    (hn : ∀ i, (assignEach tgs (X i).env).length = tgs.length := by intro _; rfl) (hst : ∀ i, (assignEach tgs (X i).env).findIdx? (·.1) = none := by intro _; rfl) : XG K X (.Tuple tgs x1 pos) d δ js kd := fun wa G H σ v R wd en r hq => by
  obtain ⟨ds, rfl, hl, h⟩ := h
  obtain ⟨p, vs, rfl, g, q⟩ := rp_tuple r
  refine ⟨gTup K tgs.length (rGs X tgs), fun i => ?_, p, vs, rfl, SqT.of (wd.sub _ _ g), (dqAll_len q).trans hl, h wa G H σ vs R wd en (rps_of q) hq⟩
  have z := pg_tup (X := X i) (pos := pos) (k := x1) (f.calm i) (rGs_ok X tgs i) (hn i) (hst i)
  rw [f.K_ i] at z
  exact z
theorem XS.asg {tg : Expr} {js : List Nat} (hm : ∀ i ds, s.2 = some (i, ds) → i ∉ js) (h : XE K X e s.1 fun d => XG K X tg d s.1 js fun δ' => E.nx (δ', s.2))
    (hs : ∀ i, swapsWithSole [tg] e pos.line (X i).env = pure false := by intro _; rfl) (hw : ∀ i, swappedStores [tg] e (X i).env = pure none := by intro _; rfl) (h1 : ∀ i, (assignEach [tg] (X i).env).map (·.2) = [assign tg (X i).env] := by intro _; rfl) :
    XS K X (.Assign [tg] e pos) E s := fun wa G0 H0 Gb σ G H D I d =>
  ⟨tAsg (rE X e) (rG X tg), fun i => ps_asg (rE_ok X e i) (rG_ok X tg i) (hs i) (hw i) (h1 i),
    h wa G H σ _ I.le.wd I.en fun v dd G1 H1 l r q => q wa G1 H1 σ v _ l.wd (I.step l).en r fun σ' δ' en' l' o' h' => d.nx _ _ G1 H1 ((I.step l).env en' o' hm) h'⟩
/-- a, b = e1, e2 -/
theorem XS.par {i1 i2 : Nat} {x y : Str} {px py pt : Pos} {q1 q2 : Nat} {pt2 : Pos} (f : Fm P w K mg base N sc n X) (hN : N.Nodup) (hi : N[i1]? = some x) (hj : N[i2]? = some y) (hij : i1 ≠ i2)
    (hx : sc.names.lookup x = some .local) (hy : sc.names.lookup y = some .local) (hm : ∀ i ds, s.2 = some (i, ds) → i ≠ i1 ∧ i ≠ i2) (h : XA K X [a, b] s.1 fun ds => ∃ d1 d2, ds = [d1, d2] ∧ E.nx ((s.1.set i1 (some d1)).set i2 (some d2), s.2))
    (hw : ∀ i, swappedStores [.Tuple [.Name x px, .Name y py] q1 pt] (.Tuple [a, b] q2 pt2) (X i).env = pure (some [x, y]) := by intro _; rfl)
    (hs : ∀ i, swapsWithSole [.Tuple [.Name x px, .Name y py] q1 pt] (.Tuple [a, b] q2 pt2) pos.line (X i).env = pure false := by intro _; rfl) :
    XS K X (.Assign [.Tuple [.Name x px, .Name y py] q1 pt] (.Tuple [a, b] q2 pt2) pos) E s := fun wa G0 H0 Gb σ G H D I d =>
  ⟨tPar i1 i2 (rA X [a, b]), fun i => ps_par (f.calm i) (by rw [f.N_ i]; exact hN) (by rw [f.N_ i]; exact hi) (by rw [f.N_ i]; exact hj) hij (by rw [f.sc_ i]; exact hx) (by rw [f.sc_ i]; exact hy) (rA_ok X [a, b] i) (hw i) (hs i),
    h wa G H σ _ I.le.wd I.en fun vs ds G1 H1 l r q => by
      obtain ⟨d1, d2, rfl, q⟩ := q
      cases r with
      | cons r1 r2 =>
        cases r2 with
        | cons r2 r3 =>
          cases r3
          refine ⟨_, _, rfl, d.nx _ _ G1 H1 ((I.step l).env (js := [i1, i2]) (((I.step l).en.set (slot_some r1) i1).set (slot_some r2) i2) (fun i ni => ?_) fun i ds e => ?_) q⟩
          · rw [List.getElem?_set_ne (fun z => ni (by rw [← z]; exact List.mem_cons_of_mem _ List.mem_cons_self)), List.getElem?_set_ne (fun z => ni (by rw [← z]; exact List.mem_cons_self))]
          · obtain ⟨n1, n2⟩ := hm i ds e
            intro z
            rcases List.mem_cons.mp z with z | z
            · exact n1 z
            · exact n2 (List.mem_singleton.mp z)⟩

/-! ### a list that is filled -/
theorem XL.lst {es : List Expr} {kl : List PyData → Prop} (h : XA K X es δ fun ds => (∀ d ∈ ds, Dt d) ∧ ds.length ≤ 1000000 ∧ kl ds) : XL K X (.List es pos) δ kl := fun wa G H σ Q wd en hq =>
  ⟨_, fun i => pe_lst (rA_ok X es i), h wa G H σ _ wd en fun vs ds G1 H1 l r h => ⟨by rw [r.len]; exact small h.2.1, fun p hp =>
    hq p vs ds _ _ (l.trans (Le.tmp l.wd hp)) (by
      cases e : H p with
      | none => rfl
      | some o => exact absurd hp (l.dom (by rw [e]; exact fun z => nomatch z))) (l.wd.fresh hp) (fun z => l.wd.nwa (by rw [← z]; exact hp)) upd_same (dqAll_of r h.1) h.2.2⟩⟩
theorem XL.cat {kl : List PyData → Prop} (h : XE K X a δ fun d1 => XE K X b δ fun d2 => ∃ xs ys, d1 = .list xs ∧ d2 = .list ys ∧ xs.length + ys.length ≤ 1000000 ∧ kl (xs ++ ys)) : XL K X (.BinOp a .Add b pos) δ kl := fun wa G H σ Q wd en hq =>
  ⟨_, fun i => pe_op (op_cat (X := X i)) (rE_ok X a i) (rE_ok X b i),
    h wa G H σ _ wd en fun x d1 G1 H1 l1 r1 h1 => h1 wa G1 H1 σ _ l1.wd (en.mono (l1.same wd)) fun y d2 G2 H2 l2 r2 h2 => by
      obtain ⟨xs, ys, rfl, rfl, hz, hk⟩ := h2
      obtain ⟨p1, v1, rfl, g1, q1⟩ := rp_list (r1.mono (l2.same l1.wd))
      obtain ⟨p2, v2, rfl, g2, q2⟩ := rp_list r2
      have l := l1.trans l2
      refine ⟨p1, p2, v1, v2, rfl, rfl, l2.wd.sub _ _ g1, l2.wd.sub _ _ g2, by rw [dqAll_len q1, dqAll_len q2]; exact small hz, fun p hp => ?_⟩
      exact hq p _ _ _ _ (l.trans (Le.tmp l2.wd hp)) (by
        cases e : H p with
        | none => rfl
        | some o => exact absurd hp (l.dom (by rw [e]; exact fun z => nomatch z))) (l2.wd.fresh hp) (fun z => l2.wd.nwa (by rw [← z]; exact hp)) upd_same (dqAll_app q1 q2) hk⟩
/-- the state in which slot j holds the list -/
theorem StInv.fill (I : StInv K wa G0 H0 Gb s σ G H) {p : Addr} {vs : List V} {ds : List PyData} (l : Le wa G H G' H') (h0 : H p = none) (hg : G' p = none) (hw : p ≠ wa) (hp : H' p = some (.lst vs)) (q : DqAll G' vs ds) {j : Nat} (hj : j < σ.length) :
    StInv K wa G0 H0 Gb (s.1.set j none, some (j, ds)) (σ.set j (some (.ref p))) G' H' :=
  ⟨I.le.trans l, I.gb.trans (l.same I.le.wd), (I.en.mono (l.same I.le.wd)).set slot_none j, fun i es e => by
    cases e
    refine ⟨p, vs, by rw [List.getElem?_set_self hj], hw, ?_, hg, hp, q⟩
    cases e : H0 p with
    | none => rfl
    | some o => exact absurd h0 (I.le.dom (by rw [e]; exact fun z => nomatch z))⟩
theorem EnvOk.len {σ : St} {δ : DS} (h : EnvOk K wa G σ δ) : σ.length = δ.length := Paired.length h
theorem XS.setM {x : Str} {j : Nat} {p2 : Pos} (f : Fm P w K mg base N sc n X) (hN : N.Nodup) (hi : N[j]? = some x) (hx : Loc sc x) (hj : j < s.1.length) (h : XL K X e s.1 fun ds => E.nx (s.1.set j none, some (j, ds)))
    (hs : ∀ i, swapsWith e (some (.Name x p2)) pos.line (X i).env = pure false := by intro _; rfl) (hf : ∀ i, (X i).fn x = true ∨ (X i).env.scope.names.lookup x = some .local := by intro _; first | exact .inl rfl | exact .inr rfl) :
    XS K X (.Assign [.Name x p2] e pos) E s := fun wa G0 H0 Gb σ G H D I d =>
  ⟨tAsg (rE X e) (gName j), fun i => ps_set (by rw [f.N_ i]; exact hN) (by rw [f.N_ i]; exact hi) (by rw [f.sc_ i]; exact hx) (rE_ok X e i) (hs i) (hf i),
    h wa G H σ _ I.le.wd I.en fun p vs ds G1 H1 l h0 hg hw hp q hk => d.nx _ _ G1 H1 (I.fill l h0 hg hw hp q (by rw [I.en.len]; exact hj)) hk⟩
/-- x, y = [..], b -/
theorem XS.parM {i1 i2 : Nat} {x y : Str} {px py pt : Pos} {q1 q2 : Nat} {pt2 : Pos} (f : Fm P w K mg base N sc n X) (hN : N.Nodup) (hi : N[i1]? = some x) (hj : N[i2]? = some y) (hij : i1 ≠ i2)
    (hx : sc.names.lookup x = some .local) (hy : sc.names.lookup y = some .local) (h1 : i1 < s.1.length) (h : XL K X a s.1 fun ds => XE K X b s.1 fun d2 => E.nx ((s.1.set i1 none).set i2 (some d2), some (i1, ds)))
    (hw : ∀ i, swappedStores [.Tuple [.Name x px, .Name y py] q1 pt] (.Tuple [a, b] q2 pt2) (X i).env = pure (some [x, y]) := by intro _; rfl)
    (hs : ∀ i, swapsWithSole [.Tuple [.Name x px, .Name y py] q1 pt] (.Tuple [a, b] q2 pt2) pos.line (X i).env = pure false := by intro _; rfl)
    (hsa : ∀ i, starEach [a, b] (X i).env = (false, eval a (X i).env) :: starEach [b] (X i).env := by intro _; rfl) (hsb : ∀ i, starEach [b] (X i).env = (false, eval b (X i).env) :: starEach [] (X i).env := by intro _; rfl) :
    XS K X (.Assign [.Tuple [.Name x px, .Name y py] q1 pt] (.Tuple [a, b] q2 pt2) pos) E s := fun wa G0 H0 Gb σ G H D I d =>
  ⟨tPar i1 i2 (tCons (rE X a) (tCons (rE X b) tNil)), fun i => ps_par (f.calm i) (by rw [f.N_ i]; exact hN) (by rw [f.N_ i]; exact hi) (by rw [f.N_ i]; exact hj) hij (by rw [f.sc_ i]; exact hx) (by rw [f.sc_ i]; exact hy) (pa_cons (rE_ok X a i) (pa_cons (rE_ok X b i) pa_nil (hsb i)) (hsa i)) (hw i) (hs i),
    h wa G H σ _ I.le.wd I.en fun p vs ds G1 H1 l1 h0 hg hwa hp q hk => hk wa G1 H1 σ _ l1.wd (I.en.mono (l1.same I.le.wd)) fun v d2 G2 H2 l2 r2 hk => by
      have hp1 : H1 p ≠ none := by
        rw [hp]
        exact fun z => nomatch z
      refine ⟨_, _, rfl, d.nx _ _ G2 H2 ?_ hk⟩
      have I1 := I.fill (l1.trans l2) h0 ((l2.kp p hp1).trans hg) hwa ((l2.fr p hwa hp1).trans hp) (dqAll_mono (l2.same l1.wd) _ _ q) (j := i1) (by rw [I.en.len]; exact h1)
      have I2 := I1.set i2 r2
      rw [show dropM i2 (s.1.set i1 none, some (i1, ds)).2 = some (i1, ds) from if_neg hij] at I2
      exact I2⟩
/-- .. is full: data from here on -/
theorem XSs.freeze {st : List Stmt} {i : Nat} {ds : List PyData} (h : XSs K X st E (s.1.set i (some (.list ds)), none)) (e : s.2 = some (i, ds)) : XSs K X st E s := fun wa G0 H0 Gb σ G H D I d => by
  obtain ⟨l, vs, h1, hw, h0, hg, hp, q⟩ := I.mu i ds e
  have sm : Same G (upd G l (.lst vs)) := same_new hg _
  refine h wa G0 H0 Gb σ (upd G l (.lst vs)) H D ⟨⟨⟨fun a u e => ?_, ?_, I.le.wd.well⟩, fun a h => ?_, I.le.fr⟩, I.gb.trans sm, ?_, fun _ _ z => nomatch z⟩ d
  · by_cases z : a = l
    · subst z
      rw [upd_same] at e
      rw [← e]
      exact hp
    · rw [upd_ne z] at e
      exact I.le.wd.sub a u e
  · rw [upd_ne (Ne.symm hw)]
    exact I.le.wd.out
  · rw [upd_ne fun z => h (by rw [z]; exact h0)]
    exact I.le.kp a h
  · have en := (I.en.mono sm).set (slot_some (K := K) (wa := wa) (.inl (.lst upd_same (dqAll_mono sm _ _ q)))) i
    have e2 : σ.set i (some (.ref l)) = σ := by
      apply List.ext_getElem?
      intro m
      by_cases z : i = m
      · subst z
        rw [h1]
        exact List.getElem?_set_self (by
          by_cases y : i < σ.length
          · exact y
          · rw [List.getElem?_eq_none (by omega)] at h1
            cases h1)
      · exact List.getElem?_set_ne z
    rw [e2] at en
    exact en
/-- x.append(e) -/
theorem XS.app {x : Str} {i : Nat} {ds : List PyData} {p1 p2 p3 : Pos} (f : Fm P w K mg base N sc n X) (es : s.2 = some (i, ds)) (hN : N[i]? = some x) (hv : Vis sc x) (hl : ds.length < 1000000) (h : XE K X e s.1 fun d => Dt d ∧ E.nx (s.1, some (i, ds ++ [d])))
    (hd : (x == ("__debug__" : Str)) = false := by decide) (hcd : (x == ("__classdict__" : Str)) = false := by decide)
    (hsw : ∀ i, swapsWith (.Call (.Attribute (.Name x p1) "append" p2) [e] [] p3) none pos.line (X i).env = pure false := by intro _; rfl)
    (hbase : ∀ i, attributeBase (.Name x p1) "append" (X i).env (eval (.Name x p1) (X i).env) = eval (.Name x p1) (X i).env := by intro _; rfl)
    (hfew : ∀ i, ((backTo p3 (starEach (e :: []) (X i).env)).all (fun x => !x.1) && (backToKw p3 (keywordEach [] (X i).env)).all (fun x => x.1.isSome)
      && decide ((e :: []).length + ([] : List Keyword).length + (if ([] : List Keyword).isEmpty then 0 else 1) < 30)) = true := by intro _; rfl)
    (hline : (p2.endLine == p3.line) = true := by rfl) (hs : ∀ i, starEach (e :: []) (X i).env = (false, eval e (X i).env) :: starEach [] (X i).env := by intro _; rfl) (hplain : ∀ i, (backTo p3 (starEach [] (X i).env)).any (·.1) = false := by intro _; rfl) :
    XS K X (.Expr (.Call (.Attribute (.Name x p1) "append" p2) [e] [] p3) pos) E s := fun wa G0 H0 Gb σ G H D I d => by
  obtain ⟨l, vs, h1, hw, h0, hg, hp, q⟩ := I.mu i ds es
  refine ⟨tDrop (tBM K "list" rAppend (tVar i) (tCons (rE X e) tNil)), fun j => ps_expr (by
    have z := pe_bm (X := X j) PySem.F.plainAttrs_list PySem.F.slot_list_append PySem.F.type_list_append mt_append (pe_var (by rw [f.N_ j]; exact hN) (by rw [f.sc_ j]; exact hv) hd hcd) (pa_cons (rE_ok X e j) pa_nil (hs j)) (hbase j) (hfew j) hline (hs j) (hplain j)
    rw [f.K_ j] at z
    exact z) (hsw j), ?_⟩
  refine ⟨_, h1, .inl ⟨rfl, _, SqL.of hp⟩, ?_⟩
  refine h wa G H σ _ I.le.wd I.en fun v d1 G1 H1 l1 r1 hk => ?_
  have hpn : H l ≠ none := by
    rw [hp]
    exact fun z => nomatch z
  have hp1 := (l1.fr l hw hpn).trans hp
  refine ⟨l, vs, v, rfl, rfl, hp1, by rw [dqAll_len q]; exact small (Nat.le_trans (Nat.le_refl _) hl), ?_⟩
  have I1 := I.step l1
  have g1 := (l1.kp l hpn).trans hg
  refine d.nx (s.1, some (i, ds ++ [d1])) _ G1 _ ⟨⟨⟨fun a u z => ?_, I1.le.wd.out, ?_⟩, I1.le.kp, fun a n0 z => ?_⟩, I1.gb, I1.en, fun i2 ds2 z => ?_⟩ hk.2
  · rw [upd_ne fun y => by rw [y, g1] at z; exact nomatch z]
    exact I1.le.wd.sub a u z
  · obtain ⟨a, b, c, z⟩ := I1.le.wd.well
    exact ⟨a, b, c, by rw [upd_ne (Ne.symm hw)]; exact z⟩
  · rw [upd_ne fun y => z (by rw [y]; exact h0)]
    exact I1.le.fr a n0 z
  · cases z
    exact ⟨l, _, h1, hw, h0, g1, upd_same, dqAll_app (dqAll_mono (l1.same I.le.wd) _ _ q) (.cons (r1.dp hk.1) .nil)⟩

/-! ### the well is written -/
theorem Le.well {x y z : Int} (w : Wd wa G H) : Le wa G H G (upd H wa (.lst [.int x, .int y, .int z])) :=
  ⟨⟨fun a u e => by
    rw [upd_ne fun z => by rw [z, w.out] at e; exact nomatch e]
    exact w.sub a u e, w.out, ⟨x, y, z, upd_same⟩⟩, fun _ _ => rfl, fun a n _ => upd_ne n⟩
theorem XS.well {o i : Expr} {p2 : Pos} (h : XE K X e s.1 fun d => ∃ z, d = .int z ∧ XE K X o s.1 fun d1 => d1 = wel ∧ XE K X i s.1 fun d2 => ∃ j : Int, d2 = .int j ∧ 0 ≤ j ∧ j < 3 ∧ E.nx s)
    (ha : ∀ k v, assign (.Subscript o i p2) (X k).env v = (do
      let ov ← holding [v] (eval o (X k).env)
      let iv ← holding [v, ov] (eval i (X k).env)
      standAt p2
      holding [v, ov, iv] (setItem ov iv v)
      release [v, ov, iv] []) := by intro _ _; rfl)
    (hs : ∀ k, swapsWithSole [.Subscript o i p2] e pos.line (X k).env = pure false := by intro _; rfl) (hw : ∀ k, swappedStores [.Subscript o i p2] e (X k).env = pure none := by intro _; rfl) (h1 : ∀ k, (assignEach [.Subscript o i p2] (X k).env).map (·.2) = [assign (.Subscript o i p2) (X k).env] := by intro _; rfl) :
    XS K X (.Assign [.Subscript o i p2] e pos) E s := fun wa G0 H0 Gb σ G H D I d =>
  ⟨tAsg (rE X e) (gSub (rE X o) (rE X i) rSetL), fun k => ps_asg (rE_ok X e k) (pg_sub (rE_ok X o k) (rE_ok X i k) set_list (ha k)) (hs k) (hw k) (h1 k),
    h wa G H σ _ I.le.wd I.en fun v d0 G1 H1 l1 r1 h => by
      obtain ⟨z, rfl, h⟩ := h
      refine h wa G1 H1 σ _ l1.wd (I.en.mono (l1.same I.le.wd)) fun v1 d1 G2 H2 l2 r2 h => ?_
      obtain ⟨rfl, h⟩ := h
      refine h wa G2 H2 σ _ l2.wd (I.en.mono ((l1.trans l2).same I.le.wd)) fun v2 d2 G3 H3 l3 r3 h => ?_
      obtain ⟨j, rfl, h0, h3, hk⟩ := h
      obtain ⟨x0, x1, x2, hq⟩ := l3.wd.well
      have e3 : j = 0 ∨ j = 1 ∨ j = 2 := by omega
      rw [rp_wel r2, rp_int r3, rp_int r1]
      have l := l1.trans (l2.trans l3)
      rcases e3 with rfl | rfl | rfl
      · exact ⟨wa, _, 0, 0, rfl, rfl, hq, rfl, d.nx _ _ _ _ (I.step (l.trans (Le.well (x := z) (y := x1) (z := x2) l3.wd))) hk⟩
      · exact ⟨wa, _, 1, 1, rfl, rfl, hq, rfl, d.nx _ _ _ _ (I.step (l.trans (Le.well (x := x0) (y := z) (z := x2) l3.wd))) hk⟩
      · exact ⟨wa, _, 2, 2, rfl, rfl, hq, rfl, d.nx _ _ _ _ (I.step (l.trans (Le.well (x := x0) (y := x1) (z := z) l3.wd))) hk⟩⟩

/-! ### loops -/
theorem XS.loop {tg iter : Expr} (f : Fm P w K mg base N sc n X) (js : List Nat) (Pv : Nat → Sta → Prop)
    (h : XI K X tg iter s.1 fun ds => Pv 0 s ∧ (∀ i d s', ds[i]? = some d → Pv i s' → (∀ q, s'.2 = some q → q.1 ∉ js) ∧ XG K X tg d s'.1 js fun δ' => XSs K X body ⟨Pv (i + 1), E.rt, E.nx, Pv (i + 1)⟩ (δ', s'.2)) ∧ ∀ s', Pv ds.length s' → E.nx s')
    (hs : ∀ k x, foldedSetIterable iter (X k).env x = pure x := by intro _ _; rfl) : XS K X (.For tg iter body [] pos) E s := fun wa G0 H0 Gb σ G H D I d =>
  ⟨tFor (rI X tg iter) (rG X tg) (rSs X body), fun k => ps_for (by rw [f.xe k]; exact PassesOwn.never) (f.calm k) (rI_ok X tg iter k) (rG_ok X tg k) (rSs_ok X body k) (hs k),
    h wa G H σ _ I.le.wd I.en fun J ds G1 H1 l1 w1 ⟨h0, ht, he⟩ => by
      refine ⟨fun i m σ H => m = ds.length - i ∧ i ≤ ds.length ∧ ∃ s' G, StInv K wa G0 H0 G1 s' σ G H ∧ Pv i s', ⟨ds.length, by simp, Nat.zero_le _, s, G1, ?_, h0⟩, ?_⟩
      · have I1 := I.step l1
        exact ⟨I1.le, fun _ _ z => z, I1.en, I1.mu⟩
      · rintro i m σ' H' ⟨rfl, hi, s', G', I', p⟩
        have gb : Same Gb G' := (I.gb.trans (l1.same I.le.wd)).trans I'.gb
        by_cases hlt : i < ds.length
        · have hd : ds[i]? = some ds[i] := List.getElem?_eq_getElem hlt
          obtain ⟨g, y⟩ := w1.1 i _ G' H' hd I'.le.wd I'.gb
          obtain ⟨hm, ht⟩ := ht i _ s' hd p
          refine .inr ⟨g, fun σ2 H2 => ∃ s2 G2, StInv K wa G0 H0 G1 s2 σ2 G2 H2 ∧ Pv (i + 1) s2, ?_, fun x H2 hy => ?_⟩
          · rintro σ2 H2 ⟨s2, G2, I2, p2⟩
            exact ⟨ds.length - (i + 1), by omega, rfl, hlt, s2, G2, I2, p2⟩
          · obtain ⟨G2, l2, r2⟩ := y x H2 hy
            have I2 := I'.step l2
            refine ht wa G2 H2 σ' x _ l2.wd I2.en r2 fun σ3 δ3 en3 _ o3 h3 => ?_
            refine h3 wa G0 H0 G1 σ3 G2 H2 _ (I2.env en3 o3 fun i ds z => hm (i, ds) z) ⟨fun s4 σ4 G4 H4 I4 z => ⟨s4, G4, I4, z⟩, fun s4 σ4 G4 H4 I4 z => ?_, fun s4 σ4 G4 H4 I4 z => ⟨s4, G4, I4, z⟩, d.rt⟩
            exact d.nx s4 σ4 G4 H4 ⟨I4.le, (I.gb.trans (l1.same I.le.wd)).trans I4.gb, I4.en, I4.mu⟩ z
        · have e : i = ds.length := by omega
          subst e
          exact .inl ⟨w1.2 G' H' I'.le.wd I'.gb, d.nx s' σ' G' H' ⟨I'.le, gb, I'.en, I'.mu⟩ (he s' p)⟩⟩
theorem XS.whil (f : Fm P w K mg base N sc n X) (Pv : Nat → Sta → Prop) (h0 : ∃ m, Pv m s)
    (h : ∀ m s', Pv m s' → XT K X c s'.1 fun z => if z = true then XSs K X body ⟨fun s2 => ∃ m', m' < m ∧ Pv m' s2, E.rt, E.nx, fun s2 => ∃ m', m' < m ∧ Pv m' s2⟩ s' else E.nx s') : XS K X (.While c body [] pos) E s := fun wa G0 H0 Gb σ G H D I d =>
  ⟨tWhile (rT X c) (rSs X body), fun k => ps_while (by rw [f.xe k]; exact PassesOwn.never) (rT_ok X c k) (rSs_ok X body k), by
    obtain ⟨m0, h0⟩ := h0
    refine ⟨fun m σ H => ∃ s' G, StInv K wa G0 H0 Gb s' σ G H ∧ Pv m s', ⟨m0, s, G, I, h0⟩, ?_⟩
    rintro m σ' H' ⟨s', G', I', p⟩
    refine h m s' p wa G' H' σ' _ I'.le.wd I'.en fun z G1 H1 l1 hz => ?_
    have I1 := I'.step l1
    cases z with
    | true =>
      refine ⟨fun σ2 H2 => ∃ s2 G2, StInv K wa G0 H0 Gb s2 σ2 G2 H2 ∧ ∃ m', m' < m ∧ Pv m' s2, ?_, ?_⟩
      · rintro σ2 H2 ⟨s2, G2, I2, m', hm, p2⟩
        exact ⟨m', hm, s2, G2, I2, p2⟩
      · exact (show XSs K X body _ s' from hz) wa G0 H0 Gb σ' G1 H1 _ I1 ⟨fun s4 σ4 G4 H4 I4 z => ⟨s4, G4, I4, z⟩, fun s4 σ4 G4 H4 I4 z => d.nx s4 σ4 G4 H4 I4 z, fun s4 σ4 G4 H4 I4 z => ⟨s4, G4, I4, z⟩, d.rt⟩
    | false => exact d.nx s' σ' G1 H1 I1 hz⟩
end
end K19
set_option maxHeartbeats 4000000
/-! Walks and comprehensions over data. -/
namespace K19
open PySem PySem.Spec PyProof.Rows L2
/-- the contexts of a comprehension's block -/
abbrev BI (ι : Type) : Type := ι × Shared × Hp × Addr × List (Str × Addr) × List Addr
def blkF {ι : Type} (X : ι → Cx) (scope : Scope) : BI ι → Cx := fun q => (X q.1).blk q.2.1 q.2.2.1 scope (compEnvC scope q.2.2.2.2.1 q.2.2.2.1 (X q.1).env) q.2.2.2.2.2
section
variable {ι : Type} {K : PySem.W.Frag} {X : ι → Cx} {e a b c elt tg iter : Expr} {δ : DS} {pos : Pos} {P : Program} {w : World} {mg : Str → Option Value} {base : Heap} {N : List Str} {sc scope : Scope} {n : Nat} {k : PyData → Prop} {kt : Bool → Prop} {ifs : List Expr}
theorem Fm.blk (f : Fm P w K mg base N sc n X) (scope : Scope) : Fm P w K mg base N (relS scope sc) n (blkF X scope) :=
  ⟨fun q => f.P_ q.1, fun q => f.w_ q.1, fun q => f.K_ q.1, fun q => f.mg_ q.1, fun q => f.base_ q.1, fun q => f.N_ q.1, fun q => by
    show relS scope (X q.1).env.scope = _
    rw [f.sc_ q.1], fun q => f.calm q.1, fun q => f.room q.1, fun _ => rfl⟩
theorem Fm.gl {x : Str} (f : Fm P w K mg base N sc n X) (hg : sc.names.lookup x = some .globalImplicit) (i : ι) : Gl (X i) x := by
  show (X i).env.scope.names.lookup x = some .globalImplicit
  rw [f.sc_ i]
  exact hg
/-! ### walks -/
theorem walkD_of {wa : Addr} {G : Hp} {J : It} {m : Nat} {S : Hp → Prop} {Y : Nat → Hp → V → Hp → Prop} {ds : List PyData} (W : Walk J m S Y) (hm : ds.length = m) (hS : ∀ G1 H1, Wd wa G1 H1 → Same G G1 → S H1)
    (hY : ∀ i d G1 H1 x H2, ds[i]? = some d → Wd wa G1 H1 → Same G G1 → Y i H1 x H2 → ∃ G2, Le wa G1 H1 G2 H2 ∧ Rp K wa G2 x d) : WalkD K wa G J ds := by
  subst hm
  refine ⟨fun j d G1 H1 hd wd sm => ?_, fun G1 H1 wd sm => W.stops H1 (hS G1 H1 wd sm)⟩
  have hj : j < ds.length := by
    by_cases h : j < ds.length
    · exact h
    · rw [List.getElem?_eq_none (by omega)] at hd
      cases hd
  exact ⟨W.goes j H1 hj (hS G1 H1 wd sm), fun x H2 y => hY j d G1 H1 x H2 hd wd sm (W.yields j H1 x H2 hj (hS G1 H1 wd sm) y)⟩
theorem walkD_list {wa : Addr} {G H : Hp} {p : Addr} {vs : List V} {ds : List PyData} (g : G p = some (.lst vs)) (q : DqAll G vs ds) : WalkD K wa G (Itl K p) ds :=
  walkD_of (walk_list (xs := vs)) (dqAll_len q).symm (fun G1 H1 wd sm => SqL.of (wd.sub _ _ (sm _ _ g))) fun i d G1 H1 x H2 hd wd sm y => by
    obtain ⟨rfl, y⟩ := y
    obtain ⟨v, hv, r⟩ := dqAll_get q hd
    rw [y] at hv
    cases hv
    exact ⟨G1, Le.refl wd, .inl (dq_mono sm _ _ r)⟩
theorem walkD_tup {wa : Addr} {G H : Hp} {p : Addr} {vs : List V} {ds : List PyData} (g : G p = some (.tup vs)) (q : DqAll G vs ds) : WalkD K wa G (Itt K p) ds :=
  walkD_of (walk_tup (xs := vs)) (dqAll_len q).symm (fun G1 H1 wd sm => SqT.of (wd.sub _ _ (sm _ _ g))) fun i d G1 H1 x H2 hd wd sm y => by
    obtain ⟨rfl, y⟩ := y
    obtain ⟨v, hv, r⟩ := dqAll_get q hd
    rw [y] at hv
    cases hv
    exact ⟨G1, Le.refl wd, .inl (dq_mono sm _ _ r)⟩
def rngD (lo : Int) (m : Nat) : List PyData := (List.range m).map fun (j : Nat) => .int (lo + j)
theorem rngD_len (lo : Int) (m : Nat) : (rngD lo m).length = m := by simp [rngD]
theorem rngD_get {lo : Int} {m i : Nat} {d : PyData} (h : (rngD lo m)[i]? = some d) : i < m ∧ d = .int (lo + i) := by
  unfold rngD at h
  rw [List.getElem?_map] at h
  by_cases hi : i < m
  · rw [List.getElem?_range hi] at h
    exact ⟨hi, by simpa using h.symm⟩
  · rw [List.getElem?_eq_none (by simpa using hi)] at h
    cases h
theorem walkD_rng {wa : Addr} {G : Hp} {lo : Int} {m : Nat} : WalkD K wa G (Itr lo m) (rngD lo m) :=
  walkD_of (walk_range (lo := lo) (n := m)) (rngD_len lo m) (fun _ _ _ _ => True.intro) fun i d G1 H1 x H2 hd wd sm y => by
    obtain ⟨rfl, rfl⟩ := y
    obtain ⟨_, rfl⟩ := rngD_get hd
    exact ⟨G1, Le.refl wd, .inl (.int _)⟩
theorem XI.list {ks : List PyData → Prop} (f : Fm P w K mg base N sc n X) (h : XE K X e δ fun d => ∃ ds, d = .list ds ∧ ks ds) : XI K X tg e δ ks := fun wa G H σ R wd en hq =>
  ⟨iList K (rE X e), fun i => by
    have z := pi_list (X := X i) (tg := tg) (rE_ok X e i)
    rw [f.K_ i] at z
    exact z, h wa G H σ _ wd en fun v d G1 H1 l r h => by
      obtain ⟨ds, rfl, h⟩ := h
      obtain ⟨p, vs, rfl, g, q⟩ := rp_list r
      exact ⟨p, rfl, ⟨vs, SqL.of (l.wd.sub _ _ g)⟩, hq _ ds G1 H1 l (walkD_list (H := H1) g q) h⟩⟩
theorem XI.tup {ks : List PyData → Prop} (f : Fm P w K mg base N sc n X) (h : XE K X e δ fun d => ∃ ds, d = .tuple ds ∧ ks ds) : XI K X tg e δ ks := fun wa G H σ R wd en hq =>
  ⟨iTup K (rE X e), fun i => by
    have z := pi_tup (X := X i) (tg := tg) (rE_ok X e i)
    rw [f.K_ i] at z
    exact z, h wa G H σ _ wd en fun v d G1 H1 l r h => by
      obtain ⟨ds, rfl, h⟩ := h
      obtain ⟨p, vs, rfl, g, q⟩ := rp_tuple r
      exact ⟨p, rfl, ⟨vs, SqT.of (l.wd.sub _ _ g)⟩, hq _ ds G1 H1 l (walkD_tup (H := H1) g q) h⟩⟩
theorem XI.rng {p : Pos} {ks : List PyData → Prop} (f : Fm P w K mg base N sc n X) (hg : sc.names.lookup ("range" : Str) = some .globalImplicit) (hm : mg "range" = none) (h : XE K X a δ fun d => ∃ j : Int, d = .int j ∧ -(2 ^ 62) ≤ j ∧ j < 2 ^ 62 ∧ ks (rngD 0 j.toNat))
    (hs : ∀ i, starEach (a :: []) (X i).env = (false, eval a (X i).env) :: starEach [] (X i).env := by intro _; rfl) : XI K X tg (.Call (.Name "range" p) [a] [] pos) δ ks := fun wa G H σ R wd en hq =>
  ⟨iRng1 (tCons (rE X a) tNil), fun i => pi_range1 (f.gl hg i) (by rw [f.mg_ i]; exact hm) (pa_cons (rE_ok X a i) pa_nil (hs i)) (hs i),
    h wa G H σ _ wd en fun v d G1 H1 l r h => by
      obtain ⟨j, rfl, h1, h2, h⟩ := h
      rw [rp_int r]
      exact ⟨j, rfl, h1, h2, hq _ _ G1 H1 l walkD_rng h⟩⟩
theorem XI.rng2 {p : Pos} {ks : List PyData → Prop} (f : Fm P w K mg base N sc n X) (hg : sc.names.lookup ("range" : Str) = some .globalImplicit) (hm : mg "range" = none)
    (h : XE K X a δ fun d1 => XE K X b δ fun d2 => ∃ i j : Int, d1 = .int i ∧ d2 = .int j ∧ (-(2 ^ 62) ≤ i ∧ i < 2 ^ 62 ∧ -(2 ^ 62) ≤ j ∧ j < 2 ^ 62) ∧ ks (rngD i (j - i).toNat))
    (hs : ∀ i, starEach [a, b] (X i).env = (false, eval a (X i).env) :: starEach [b] (X i).env := by intro _; rfl) (hs2 : ∀ i, starEach [b] (X i).env = (false, eval b (X i).env) :: starEach [] (X i).env := by intro _; rfl) : XI K X tg (.Call (.Name "range" p) [a, b] [] pos) δ ks := fun wa G H σ R wd en hq =>
  ⟨iRng2 (tCons (rE X a) (tCons (rE X b) tNil)), fun i => pi_range2 (f.gl hg i) (by rw [f.mg_ i]; exact hm) (pa_cons (rE_ok X a i) (pa_cons (rE_ok X b i) pa_nil (hs2 i)) (hs i)) (by rw [hs i, hs2 i]; rfl) (by rw [hs2 i]; rfl),
    h wa G H σ _ wd en fun v d G1 H1 l1 r1 h => h wa G1 H1 σ _ l1.wd (en.mono (l1.same wd)) fun v2 d2 G2 H2 l2 r2 h => by
      obtain ⟨i, j, rfl, rfl, hb, h⟩ := h
      rw [rp_int r1, rp_int r2]
      exact ⟨i, j, rfl, hb, hq _ _ G2 H2 (l1.trans l2) walkD_rng h⟩⟩

/-! ### comprehensions -/
theorem XTs.nil (h : kt true) : XTs K X [] δ kt := fun wa G H σ Q wd en hq => ⟨tYes, fun _ => pts_nil, hq true G H (Le.refl wd) h⟩
theorem XTs.one (h : XT K X c δ kt) : XTs K X [c] δ kt := fun wa G H σ Q wd en hq => by
  obtain ⟨t, p, q⟩ := h wa G H σ Q wd en hq
  exact ⟨t, fun i => pts_one (p i), q⟩
theorem wipe_get (σ : St) (i : Nat) : ∀ vs : List Nat, (wipe σ vs)[i]? = if i ∈ vs then (if i < σ.length then some none else none) else σ[i]?
  | [] => by simp [wipe]
  | v :: vs => by
    unfold wipe
    rw [List.getElem?_set, wipe_get σ i vs, wipe_length]
    by_cases e : v = i
    · subst e
      simp
    · have e' : ¬ i = v := fun z => e z.symm
      simp [e, e']
theorem wipe_same {σ σ' : St} {vs js : List Nat} (hj : ∀ j ∈ js, j ∈ vs) (hl : σ'.length = (wipe σ vs).length) (h : ∀ i, i ∉ js → σ'[i]? = (wipe σ vs)[i]?) : wipe σ' vs = wipe σ vs := by
  rw [wipe_length] at hl
  apply List.ext_getElem?
  intro i
  rw [wipe_get, wipe_get]
  by_cases e : i ∈ vs
  · rw [if_pos e, if_pos e, hl]
  · rw [if_neg e, if_neg e, h i fun z => e (hj i z), wipe_get, if_neg e]
/-- what a comprehension's turns are to keep -/
def LcK (K : PySem.W.Frag) {ι : Type} (X : ι → Cx) (scope : Scope) (elt tg : Expr) (ifs : List Expr) (δ : DS) (vs : List Nat) (ds : List PyData) (kl : List PyData → Prop) : Prop :=
  ∃ Pv : Nat → List PyData → Prop, Pv 0 [] ∧ (∀ i d acc, ds[i]? = some d → Pv i acc → acc.length < 1000000 ∧ XG K (blkF X scope) tg d (wipeD δ vs) vs fun δ' => XTs K (blkF X scope) ifs δ' fun z => if z = true then XE K (blkF X scope) elt δ' fun y => Dt y ∧ Pv (i + 1) (acc ++ [y]) else Pv (i + 1) acc) ∧ ∀ acc, Pv ds.length acc → kl acc
/-- each item by itself -/
theorem LcK.fm {vs : List Nat} {ds : List PyData} {kl : List PyData → Prop} (g : PyData → Option PyData) (hl : ds.length ≤ 1000000) (h : ∀ d ∈ ds, XG K (blkF X scope) tg d (wipeD δ vs) vs fun δ' => XTs K (blkF X scope) ifs δ' fun z => if z = true then XE K (blkF X scope) elt δ' fun y => Dt y ∧ g d = some y else g d = none)
    (hk : kl (ds.filterMap g)) : LcK K X scope elt tg ifs δ vs ds kl := by
  refine ⟨fun i acc => acc = (ds.take i).filterMap g, rfl, fun i d acc hd e => ?_, fun acc e => ?_⟩
  · have hi : i < ds.length := by
      by_cases h : i < ds.length
      · exact h
      · rw [List.getElem?_eq_none (by omega)] at hd
        cases hd
    have hm : d ∈ ds := List.mem_of_getElem? hd
    have tk : ds.take (i + 1) = ds.take i ++ [d] := by
      rw [List.take_succ, hd]
      rfl
    refine ⟨?_, fun wa G H σ v R wd en r hq => h d hm wa G H σ v R wd en r fun σ' δ' en' l' o' h' => hq σ' δ' en' l' o' ?_⟩
    · rw [e]
      have := List.length_filterMap_le g (ds.take i)
      rw [List.length_take] at this
      omega
    · intro wa G H σ Q wd en hq
      refine h' wa G H σ Q wd en fun z G' H' l' hz => hq z G' H' l' ?_
      have e : acc = (ds.take i).filterMap g := e
      dsimp only at hz ⊢
      cases z with
      | true =>
        rw [if_pos rfl] at hz ⊢
        refine hz.imp fun y ⟨t, e2⟩ => ⟨t, ?_⟩
        show acc ++ [y] = (ds.take (i + 1)).filterMap g
        rw [tk, List.filterMap_append, e]
        simp [e2]
      | false =>
        rw [if_neg Bool.false_ne_true] at hz ⊢
        show acc = (ds.take (i + 1)).filterMap g
        rw [tk, List.filterMap_append, e]
        simp [hz]
  · have e : acc = (ds.take ds.length).filterMap g := e
    rw [List.take_length] at e
    rw [e]
    exact hk
theorem XG.run {d : PyData} {js : List Nat} {kd : DS → Prop} {wa : Addr} {G H : Hp} {σ : St} {v : V} {R : St → Hp → Prop} (h : XG K X tg d δ js kd) (wd : Wd wa G H) (en : EnvOk K wa G σ δ) (r : Rp K wa G v d)
    (hq : ∀ σ' δ', EnvOk K wa G σ' δ' → σ'.length = σ.length → (∀ i, i ∉ js → σ'[i]? = σ[i]?) → kd δ' → R σ' H) : rG X tg v σ H R := h wa G H σ v R wd en r hq
theorem lc_run {own : List (Str × Nat)} (f : Fm P w K mg base N sc n X) {wa : Addr} {G H : Hp} {σ : St} {Q : VK} {kl : List PyData → Prop} (wd : Wd wa G H) (en : EnvOk K wa G σ δ) (h : XI K X tg iter δ fun ds => LcK K X scope elt tg ifs δ (own.map (·.2)) ds kl)
    (hq : ∀ p vs ds G' H', Le wa G H G' H' → H p = none → G' p = none → p ≠ wa → H' p = some (.lst vs) → DqAll G' vs ds → kl ds → Q (.ref p) H') :
    tLc (rI X tg iter) (rG (blkF X scope) tg) (rTs (blkF X scope) ifs) (rE (blkF X scope) elt) (own.map (·.2)) σ H Q := by
  refine h wa G H σ _ wd en fun J ds G1 H1 l1 w1 ⟨Pv, h0, ht, he⟩ => ?_
  intro D hD
  have nD : D ≠ wa := fun z => l1.wd.nwa (by rw [← z]; exact hD)
  have enw := (en.mono (l1.same wd)).wipe (own.map (·.2))
  refine ⟨fun i m H => m = ds.length - i ∧ i ≤ ds.length ∧ ∃ G' vs acc, Le wa G1 H1 G' H ∧ G' D = none ∧ H D = some (.lst vs) ∧ DqAll G' vs acc ∧ Pv i acc, ⟨ds.length, by simp, Nat.zero_le _, G1, [], [], Le.tmp l1.wd hD, l1.wd.fresh hD, upd_same, .nil, h0⟩, ?_⟩
  rintro i m H' ⟨rfl, hi, G', vs, acc, l', hg, hp, q, pv⟩
  have sm := l'.same l1.wd
  by_cases hlt : i < ds.length
  · have hd : ds[i]? = some ds[i] := List.getElem?_eq_getElem hlt
    obtain ⟨g, y⟩ := w1.1 i _ G' H' hd l'.wd sm
    obtain ⟨hz, ht⟩ := ht i _ acc hd pv
    refine .inr ⟨g, fun H2 => i + 1 ≤ ds.length ∧ ∃ G2 vs acc, Le wa G1 H1 G2 H2 ∧ G2 D = none ∧ H2 D = some (.lst vs) ∧ DqAll G2 vs acc ∧ Pv (i + 1) acc, fun H2 z => ⟨ds.length - (i + 1), by omega, rfl, z.1, z.2⟩, fun x H2 hy => ?_⟩
    obtain ⟨G2, l2, r2⟩ := y x H2 hy
    have hpn : H' D ≠ none := by
      rw [hp]
      exact fun z => nomatch z
    refine ht.run l2.wd (enw.mono (sm.trans (l2.same l'.wd))) r2 fun σ3 δ3 en3 le3 o3 h3 => ⟨wipe_same (fun _ z => z) le3 o3, ?_⟩
    refine h3 wa G2 H2 σ3 _ l2.wd en3 fun z G3 H3 l3 hz => ?_
    have l23 := l2.trans l3
    cases z with
    | true =>
      rw [if_pos rfl] at hz ⊢
      refine hz wa G3 H3 σ3 _ l3.wd (en3.mono (l3.same l2.wd)) fun v y G4 H4 l4 r4 ⟨ty, pv'⟩ => ?_
      have l24 := l23.trans l4
      have hp4 := (l24.fr D nD hpn).trans hp
      have hg4 := (l24.kp D hpn).trans hg
      refine ⟨vs, hp4, by rw [dqAll_len q]; exact small (Nat.le_trans (Nat.le_refl _) (by assumption)), hlt, G4, _, _, ?_, hg4, upd_same, dqAll_app (dqAll_mono (l24.same l'.wd) _ _ q) (.cons (r4.dp ty) .nil), pv'⟩
      have lt := l'.trans l24
      refine ⟨⟨fun a u z => ?_, lt.wd.out, ?_⟩, lt.kp, fun a n0 z => ?_⟩
      · rw [upd_ne fun y => by rw [y, hg4] at z; exact nomatch z]
        exact lt.wd.sub a u z
      · obtain ⟨a, b, c, z⟩ := lt.wd.well
        exact ⟨a, b, c, by rw [upd_ne (Ne.symm nD)]; exact z⟩
      · rw [upd_ne fun y => z (by rw [y]; exact hD)]
        exact lt.fr a n0 z
    | false =>
      rw [if_neg Bool.false_ne_true] at hz ⊢
      exact ⟨hlt, G3, vs, acc, l'.trans l23, (l23.kp D hpn).trans hg, (l23.fr D nD hpn).trans hp, dqAll_mono (l23.same l'.wd) _ _ q, hz⟩
  · have e : i = ds.length := by omega
    subst e
    have h0 : H D = none := by
      cases e : H D with
      | none => rfl
      | some o => exact absurd hD (l1.dom (by rw [e]; exact fun z => nomatch z))
    exact .inl ⟨w1.2 G' H' l'.wd sm, hq D vs acc G' H' (l1.trans l') h0 hg nD hp q (he acc pv)⟩
/-- .. a list of its own becomes data -/
theorem froze {wa : Addr} {G H G' H' : Hp} {p : Addr} {vs : List V} {ds : List PyData} (l : Le wa G H G' H') (h0 : H p = none) (hg : G' p = none) (hw : p ≠ wa) (hp : H' p = some (.lst vs)) (q : DqAll G' vs ds) : Le wa G H (upd G' p (.lst vs)) H' ∧ Rp K wa (upd G' p (.lst vs)) (.ref p) (.list ds) := by
  refine ⟨⟨⟨fun a u e => ?_, by rw [upd_ne (Ne.symm hw)]; exact l.wd.out, l.wd.well⟩, fun a h => ?_, l.fr⟩, .inl (.lst upd_same (dqAll_mono (same_new hg _) _ _ q))⟩
  · by_cases z : a = p
    · subst z
      rw [upd_same] at e
      rw [← e]
      exact hp
    · rw [upd_ne z] at e
      exact l.wd.sub a u e
  · rw [upd_ne fun z => h (by rw [z]; exact h0)]
    exact l.kp a h
theorem XE.lc {own : List (Str × Nat)} (f : Fm P w K mg base N sc n X) (hN : N.Nodup) (ok : BlkOk N sc scope own) (h : XI K X tg iter δ fun ds => LcK K X scope elt tg ifs δ (own.map (·.2)) ds fun ds => k (.list ds))
    (hs : ∀ i x, foldedSetIterable iter (X i).env x = pure x := by intro _ _; rfl) : XE K X (.ListComp elt [⟨tg, iter, ifs, 0⟩] scope pos) δ k := fun wa G H σ Q wd en hq =>
  ⟨tLc (rI X tg iter) (rG (blkF X scope) tg) (rTs (blkF X scope) ifs) (rE (blkF X scope) elt) (own.map (·.2)), fun i => pe_lc (f.calm i) (by rw [f.N_ i]; exact hN) (rI_ok X tg iter i) (by rw [f.N_ i, f.sc_ i]; exact ok) (fun s H C cl fp => rG_ok (blkF X scope) tg (i, s, H, C, cl, fp)) (fun s H C cl fp => rTs_ok (blkF X scope) ifs (i, s, H, C, cl, fp)) (fun s H C cl fp => rE_ok (blkF X scope) elt (i, s, H, C, cl, fp)) (hs i),
    lc_run f wd en h fun p vs ds G' H' l h0 hg hw hp q kk => by
      obtain ⟨l2, r2⟩ := froze (K := K) l h0 hg hw hp q
      exact hq _ _ _ _ l2 r2 kk⟩
theorem XS.setLc {E : DEnds} {s : Sta} {own : List (Str × Nat)} {j : Nat} {x : Str} {px p2 : Pos} (f : Fm P w K mg base N sc n X) (hN : N.Nodup) (hi : N[j]? = some x) (hx : sc.names.lookup x = some .local) (ok : BlkOk N sc scope own)
    (h : XI K X tg iter s.1 fun ds => LcK K X scope elt tg ifs s.1 (own.map (·.2)) ds fun ds => E.nx (s.1.set j (some (.list ds)), dropM j s.2))
    (hsw : ∀ i, swapsWith (.ListComp elt [⟨tg, iter, ifs, 0⟩] scope pos) (some (.Name x px)) p2.line (X i).env = pure true := by intro _; rfl) (hs : ∀ i x, foldedSetIterable iter (X i).env x = pure x := by intro _ _; rfl) :
    XS K X (.Assign [.Name x px] (.ListComp elt [⟨tg, iter, ifs, 0⟩] scope pos) p2) E s := by
  intro wa G0 H0 Gb σ G H D I d
  refine ⟨tAsg (tLc (rI X tg iter) (rG (blkF X scope) tg) (rTs (blkF X scope) ifs) (rE (blkF X scope) elt) (own.map fun q => q.2)) (gName j), fun i => ?_, ?_⟩
  · exact ps_setLc (f.calm i) (by rw [f.N_ i]; exact hN) (by rw [f.N_ i]; exact hi) (by rw [f.sc_ i]; exact hx) (hsw i) (rI_ok X tg iter i) (by rw [f.N_ i, f.sc_ i]; exact ok) (fun s H C cl fp => rG_ok (blkF X scope) tg (i, s, H, C, cl, fp)) (fun s H C cl fp => rTs_ok (blkF X scope) ifs (i, s, H, C, cl, fp)) (fun s H C cl fp => rE_ok (blkF X scope) elt (i, s, H, C, cl, fp)) (hs i)
  · refine lc_run (Q := fun x H1 => gName j x σ H1 D.nx) f I.le.wd I.en h fun p vs ds G' H' l h0 hg hw hp q kk => ?_
    obtain ⟨l2, r2⟩ := froze (K := K) l h0 hg hw hp q
    exact d.nx _ _ _ _ ((I.step l2).set j r2) kk
end
end K19
set_option maxHeartbeats 4000000
/-! Calls over data: defs, built-ins, tables. -/
namespace K19
open PySem PySem.Spec PyProof.Rows L2
/-- what a def does with its arguments' data: k is reached -/
abbrev Sc : Type := List PyData → (PyData → Prop) → Prop
def SpD (K : PySem.W.Frag) (sp : Sc) : Sp := fun vs H Q _ => ∃ wa G ds k0, Wd wa G H ∧ Rps K wa G vs ds ∧ sp ds k0 ∧ ∀ v d G' H', Le wa G H G' H' → Rp K wa G' v d → k0 d → Q v H'
structure CalD (P : Program) (w : World) (K : PySem.W.Frag) (mg : Str → Option Value) (base : Heap) (k : Nat) (x : Str) (ps : List Str) (sp : Sc) : Prop where
  ex : ∃ f fd, FnOk P w K mg base CX0 k f fd ps (SpD K sp) ∧ mg x = some (.ref f) ∧ PySem.W.keepIn K (.ref f) = true ∧ Binds K fd ps []
theorem CalD.mono {P : Program} {w : World} {K : PySem.W.Frag} {mg : Str → Option Value} {base : Heap} {j k : Nat} {x : Str} {ps : List Str} {sp : Sc} (c : CalD P w K mg base j x ps sp) (h : j ≤ k) : CalD P w K mg base k x ps sp := by
  obtain ⟨f, fd, a, b⟩ := c.ex
  exact ⟨f, fd, a.mono h, b⟩
/-- the contexts of a def's body -/
abbrev bodyX (P : Program) (w : World) (K : PySem.W.Frag) (mg : Str → Option Value) (base : Heap) (N : List Str) (x : Str) (sc : Scope) (f : Addr) (cdv : Value) (A : Around) (outer : List Env) (s : Shared) (H : Hp) (E : XK) : Unit → Cx :=
  fun _ => (cxOf CX0 P w K mg base N x sc f cdv A outer s H E).nox
def entry (N : List Str) (ds : List PyData) : Sta := (ds.map some ++ List.replicate (N.length - ds.length) none, none)
section
variable {P : Program} {w : World} {K : PySem.W.Frag} {mg : Str → Option Value} {base : Heap} {x : Str} {st : Stmt} {f : Addr} {fd : FuncData} {N ps : List Str} {sp : Sc} {k : Nat}
theorem CalD.of (F : FunD K x x (defArgs st) (defBody st) (defScope st) [] [] f fd) (hm : mg x = some (.ref f)) (S : FnScope N ps (defScope st))
    (hb : ∀ (kV doc pm : Value) (an : Option Addr) (cdv ct : Value) (us : List Value), us.length = ps.length → bindArgs (PySem.W.fnOf x x (defArgs st) (defBody st) (defScope st) .none kV doc pm an cdv ct) ⟨us, []⟩ = pure (ps.zip us))
    (len : ∀ ds k0, sp ds k0 → ds.length = ps.length)
    (body : ∀ (cdv : Value) (A : Around) (outer : List Env) (s : Shared) (H : Hp) (E : XK), Fm P w K mg base N (defScope st) k (bodyX P w K mg base N x (defScope st) f cdv A outer s H E) → ∀ ds k0, sp ds k0 →
      XSs K (bodyX P w K mg base N x (defScope st) f cdv A outer s H E) (defBody st) ⟨fun _ => k0 .none, k0, fun _ => False, fun _ => False⟩ (entry N ds)) : CalD P w K mg base (k + 1) x ps sp := by
  refine ⟨f, fd, F.ok S (fun vs H Q E h => ?_) (fun cdv A outer s H vs Q E hr h => ?_), hm, F.kp, F.bindsN hb⟩
  · obtain ⟨wa, G, ds, k0, _, r, h, _⟩ := h
    rw [r.len]
    exact len ds k0 h
  · obtain ⟨wa, G, ds, k0, wd, r, h, hq⟩ := h
    have fm : Fm P w K mg base N (defScope st) k (bodyX P w K mg base N x (defScope st) f cdv A outer s H E) :=
      ⟨fun _ => rfl, fun _ => rfl, fun _ => rfl, fun _ => rfl, fun _ => rfl, fun _ => rfl, fun _ => rfl, fun _ => rfl, fun _ => hr, fun _ => rfl⟩
    obtain ⟨t, p, q⟩ := body cdv A outer s H E fm ds k0 h wa G H G (start N vs) G H { nx := fun _ H' => Q .non H', rt := Q }
      ⟨Le.refl wd, fun _ _ e => e, by
        have e := EnvOk.start (N.length - ds.length) r
        rw [← r.len] at e
        unfold entry
        rw [← r.len]
        exact e, fun _ _ z => nomatch z⟩
      ⟨fun s' σ' G' H' I z => hq .non .none G' H' I.le (.inl .non) z, fun _ _ _ _ _ z => z.elim, fun _ _ _ _ _ z => z.elim, fun v d G' H' l r z => hq v d G' H' l r z⟩
    exact ⟨t, (p ()).nox, q⟩
end
section
variable {ι : Type} {K : PySem.W.Frag} {X : ι → Cx} {e a b c o : Expr} {es : List Expr} {δ : DS} {p pos apos cpos : Pos} {P : Program} {w : World} {mg : Str → Option Value} {base : Heap} {N ps : List Str} {sc : Scope} {n j : Nat} {k : PyData → Prop} {kt : Bool → Prop} {x : Str} {sp : Sc}
theorem Fm.room' (f : Fm P w K mg base N sc n X) (h : j ≤ n) (i : ι) : Room j (X i).A := (f.room i).mono h
theorem XE.call (f : Fm P w K mg base N sc n X) (cd : CalD P w K mg base j x ps sp) (hj : j ≤ n) (hg : sc.names.lookup x = some .globalImplicit) (h : XA K X (e :: es) δ fun ds => sp ds k)
    (hdb : (x == ("__debug__" : Str)) = false := by decide) (he : ∀ i, starEach (e :: es) (X i).env = (false, eval e (X i).env) :: starEach es (X i).env := by intro _; rfl) (hpl : ∀ i, (backTo pos (starEach es (X i).env)).any (·.1) = false := by intro _; rfl) :
    XE K X (.Call (.Name x p) (e :: es) [] pos) δ k := fun wa G H σ Q wd en hq => by
  obtain ⟨g, fd, F, hm, kp, bd⟩ := cd.ex
  refine ⟨tCall (SpD K sp) [] (fun _ _ _ => False) (rA X (e :: es)), fun i => pe_call (CX := CX0) (fd := fd) (ps := ps) (k := j) (ds := []) ?_ (f.room' hj i) (f.gl hg i) (by rw [f.mg_ i]; exact hm) (by rw [f.K_ i]; exact kp) (by rw [f.K_ i]; exact bd) .nil (fun _ _ _ _ _ _ _ z => z.elim) (rA_ok X (e :: es) i) hdb (he i) (hpl i), ?_⟩
  · rw [f.P_ i, f.w_ i, f.K_ i, f.mg_ i, f.base_ i]
    exact F
  · refine h wa G H σ _ wd en fun vs ds G1 H1 l1 r1 h1 => ?_
    rw [List.append_nil]
    exact ⟨wa, G1, ds, k, l1.wd, r1, h1, fun v d G' H' l r z => hq v d G' H' (l1.trans l) r z⟩
theorem XE.call0 (f : Fm P w K mg base N sc n X) (cd : CalD P w K mg base j x ps sp) (hj : j ≤ n) (hg : sc.names.lookup x = some .globalImplicit) (h : sp [] k)
    (hdb : (x == ("__debug__" : Str)) = false := by decide) : XE K X (.Call (.Name x p) [] [] pos) δ k := fun wa G H σ Q wd en hq => by
  obtain ⟨g, fd, F, hm, kp, bd⟩ := cd.ex
  refine ⟨tCall (SpD K sp) [] (fun _ _ _ => False) tNil, fun i => pe_call0 (CX := CX0) (fd := fd) (ps := ps) (k := j) (ds := []) ?_ (f.room' hj i) (f.gl hg i) (by rw [f.mg_ i]; exact hm) (by rw [f.K_ i]; exact kp) (by rw [f.K_ i]; exact bd) .nil (fun _ _ _ _ _ _ _ z => z.elim) hdb, ?_⟩
  · rw [f.P_ i, f.w_ i, f.K_ i, f.mg_ i, f.base_ i]
    exact F
  · exact ⟨wa, G, [], k, wd, .nil, h, fun v d G' H' l r z => hq v d G' H' l r z⟩

/-! ### built-ins -/
/-- what a built-in does with data -/
def RC (K : PySem.W.Frag) (r : List V → Hp → VK → Prop) (ds : List PyData) (k : PyData → Prop) : Prop := ∀ (wa : Addr) (G H : Hp) (vs : List V) (Q : VK), Wd wa G H → Rps K wa G vs ds → (∀ v d G' H', Le wa G H G' H' → Rp K wa G' v d → k d → Q v H') → r vs H Q
theorem XE.cb {id : String} {r : List V → Hp → VK → Prop} (f : Fm P w K mg base N sc n X) (hc : ∀ i, CallR (X i) (.builtin id) r) (hg : sc.names.lookup x = some .globalImplicit) (hm : mg x = none) (hv : bootBuiltins x = some (.builtin id)) (h : XA K X (e :: es) δ fun ds => RC K r ds k)
    (hn : x ≠ "__name__") (hdb : (x == ("__debug__" : Str)) = false) (he : ∀ i, starEach (e :: es) (X i).env = (false, eval e (X i).env) :: starEach es (X i).env) (hpl : ∀ i, (backTo pos (starEach es (X i).env)).any (·.1) = false) :
    XE K X (.Call (.Name x p) (e :: es) [] pos) δ k := fun wa G H σ Q wd en hq =>
  ⟨_, fun i => pe_callB (hc i) (f.gl hg i) (by rw [f.mg_ i]; exact hm) hv (rA_ok X (e :: es) i) hn hdb (he i) (hpl i),
    h wa G H σ _ wd en fun vs ds G1 H1 l1 r1 h1 => h1 wa G1 H1 vs Q l1.wd r1 fun v d G' H' l r z => hq v d G' H' (l1.trans l) r z⟩
theorem XE.ct {id : String} {r : List V → Hp → VK → Prop} (f : Fm P w K mg base N sc n X) (hc : ∀ i, CallR (X i) (.type id) r) (hg : sc.names.lookup x = some .globalImplicit) (hm : mg x = none) (hv : bootBuiltins x = some (.type id)) (h : XA K X (e :: es) δ fun ds => RC K r ds k)
    (hn : x ≠ "__name__") (hdb : (x == ("__debug__" : Str)) = false) (he : ∀ i, starEach (e :: es) (X i).env = (false, eval e (X i).env) :: starEach es (X i).env) (hpl : ∀ i, (backTo pos (starEach es (X i).env)).any (·.1) = false) :
    XE K X (.Call (.Name x p) (e :: es) [] pos) δ k := fun wa G H σ Q wd en hq =>
  ⟨_, fun i => pe_callTy (hc i) (f.gl hg i) (by rw [f.mg_ i]; exact hm) hv (rA_ok X (e :: es) i) hn hdb (he i) (hpl i),
    h wa G H σ _ wd en fun vs ds G1 H1 l1 r1 h1 => h1 wa G1 H1 vs Q l1.wd r1 fun v d G' H' l r z => hq v d G' H' (l1.trans l) r z⟩
theorem rps1 {wa : Addr} {G : Hp} {vs : List V} {d : PyData} (h : Rps K wa G vs [d]) : ∃ v, vs = [v] ∧ Rp K wa G v d := by
  cases h with
  | cons r t =>
    cases t
    exact ⟨_, rfl, r⟩
theorem rps2 {wa : Addr} {G : Hp} {vs : List V} {d1 d2 : PyData} (h : Rps K wa G vs [d1, d2]) : ∃ v1 v2, vs = [v1, v2] ∧ Rp K wa G v1 d1 ∧ Rp K wa G v2 d2 := by
  cases h with
  | cons r t =>
    cases t with
    | cons r2 t =>
      cases t
      exact ⟨_, _, rfl, r, r2⟩
theorem rd_in1 {wa : Addr} {G H : Hp} (wd : Wd wa G H) {i : Int} : Rp K wa G (.int i) (.int i) := .inl (.int i)
/-- the data's length -/
def LenK (d : PyData) (k : Nat → Prop) : Prop := (∃ ds, (d = .tuple ds ∨ d = .list ds) ∧ k ds.length) ∨ ∃ z : Str, d = .str z ∧ z.length ≤ 1000000 ∧ k z.length
theorem XE.len (f : Fm P w K mg base N sc n X) (hg : sc.names.lookup ("len" : Str) = some .globalImplicit) (hm : mg "len" = none) (h : XE K X e δ fun d => LenK d fun m => k (.int m)) (hs : ∀ i, starEach (e :: []) (X i).env = (false, eval e (X i).env) :: starEach [] (X i).env := by intro _; rfl) (hpl : ∀ i, (backTo pos (starEach [] (X i).env)).any (·.1) = false := by intro _; rfl) :
    XE K X (.Call (.Name "len" p) [e] [] pos) δ k :=
  XE.cb (r := fun xs H Q => ∃ x n, xs = [x] ∧ LenV K x H n ∧ Q (.int n) H) f (fun i => by
    have z := call_len (X := X i)
    rw [f.K_ i] at z
    exact z) hg hm boot_len (XA.cons (h.imp fun d hd => XA.nil fun wa G H vs Q wd rr hq => by
    obtain ⟨v, rfl, r⟩ := rps1 rr
    rcases hd with ⟨ds, rfl | rfl, hk⟩ | ⟨z, rfl, hz, hk⟩
    · obtain ⟨q, us, rfl, g, t⟩ := rp_tuple r
      exact ⟨_, _, rfl, .inr ⟨us, SqT.of (wd.sub _ _ g), rfl⟩, hq _ _ G H (Le.refl wd) (.inl (.int _)) (by rw [dqAll_len t]; exact hk)⟩
    · obtain ⟨q, us, rfl, g, t⟩ := rp_list r
      exact ⟨_, _, rfl, .inl ⟨us, SqL.of (wd.sub _ _ g), rfl⟩, hq _ _ G H (Le.refl wd) (.inl (.int _)) (by rw [dqAll_len t]; exact hk)⟩
    · rw [rp_str r]
      exact ⟨_, _, rfl, ⟨small hz, rfl⟩, hq _ _ G H (Le.refl wd) (.inl (.int _)) hk⟩) hs) (by decide) (by decide) hs hpl
theorem XE.abs (f : Fm P w K mg base N sc n X) (hg : sc.names.lookup ("abs" : Str) = some .globalImplicit) (hm : mg "abs" = none) (h : XE K X e δ fun d => ∃ i, d = .int i ∧ k (.int (if i < 0 then -i else i))) (hs : ∀ i, starEach (e :: []) (X i).env = (false, eval e (X i).env) :: starEach [] (X i).env := by intro _; rfl) (hpl : ∀ i, (backTo pos (starEach [] (X i).env)).any (·.1) = false := by intro _; rfl) :
    XE K X (.Call (.Name "abs" p) [e] [] pos) δ k :=
  XE.cb f (fun i => call_abs (X := X i)) hg hm boot_abs (XA.cons (h.imp fun d ⟨i, e, hk⟩ => XA.nil fun wa G H vs Q wd rr hq => by
    subst e
    obtain ⟨v, rfl, r⟩ := rps1 rr
    exact ⟨i, by rw [rp_int r], hq _ _ G H (Le.refl wd) (.inl (.int _)) hk⟩) hs) (by decide) (by decide) hs hpl
theorem XE.int1 (f : Fm P w K mg base N sc n X) (hg : sc.names.lookup ("int" : Str) = some .globalImplicit) (hm : mg "int" = none) (h : XE K X e δ fun d => ∃ i, d = .int i ∧ k (.int i)) (hs : ∀ i, starEach (e :: []) (X i).env = (false, eval e (X i).env) :: starEach [] (X i).env := by intro _; rfl) (hpl : ∀ i, (backTo pos (starEach [] (X i).env)).any (·.1) = false := by intro _; rfl) :
    XE K X (.Call (.Name "int" p) [e] [] pos) δ k :=
  XE.ct f (fun i => call_int1 (X := X i)) hg hm PyProof.Rows.boot_int (XA.cons (h.imp fun d ⟨i, e, hk⟩ => XA.nil fun wa G H vs Q wd rr hq => by
    subst e
    obtain ⟨v, rfl, r⟩ := rps1 rr
    exact .inl ⟨i, by rw [rp_int r], hq _ _ G H (Le.refl wd) (.inl (.int _)) hk⟩) hs) (by decide) (by decide) hs hpl
theorem XE.max (f : Fm P w K mg base N sc n X) (hg : sc.names.lookup ("max" : Str) = some .globalImplicit) (hm : mg "max" = none) (h : XE K X a δ fun d1 => XE K X b δ fun d2 => ∃ i j, d1 = .int i ∧ d2 = .int j ∧ k (.int (if j > i then j else i)))
    (hs : ∀ i, starEach [a, b] (X i).env = (false, eval a (X i).env) :: starEach [b] (X i).env := by intro _; rfl) (hs2 : ∀ i, starEach [b] (X i).env = (false, eval b (X i).env) :: starEach [] (X i).env := by intro _; rfl) (hpl : ∀ i, (backTo pos (starEach [b] (X i).env)).any (·.1) = false := by intro _; rfl) :
    XE K X (.Call (.Name "max" p) [a, b] [] pos) δ k :=
  XE.cb f (fun i => call_max2 (X := X i) (f.calm i)) hg hm boot_max (XA.cons (h.imp fun d1 z => XA.cons (z.imp fun d2 ⟨i, j, e1, e2, hk⟩ => XA.nil fun wa G H vs Q wd rr hq => by
    subst e1 e2
    obtain ⟨v, u, rfl, r1, r2⟩ := rps2 rr
    exact ⟨i, j, by rw [rp_int r1, rp_int r2], hq _ _ G H (Le.refl wd) (.inl (.int _)) hk⟩) hs2) hs) (by decide) (by decide) hs hpl
theorem XE.min (f : Fm P w K mg base N sc n X) (hg : sc.names.lookup ("min" : Str) = some .globalImplicit) (hm : mg "min" = none) (h : XE K X a δ fun d1 => XE K X b δ fun d2 => ∃ i j, d1 = .int i ∧ d2 = .int j ∧ k (.int (if j < i then j else i)))
    (hs : ∀ i, starEach [a, b] (X i).env = (false, eval a (X i).env) :: starEach [b] (X i).env := by intro _; rfl) (hs2 : ∀ i, starEach [b] (X i).env = (false, eval b (X i).env) :: starEach [] (X i).env := by intro _; rfl) (hpl : ∀ i, (backTo pos (starEach [b] (X i).env)).any (·.1) = false := by intro _; rfl) :
    XE K X (.Call (.Name "min" p) [a, b] [] pos) δ k :=
  XE.cb f (fun i => call_min2 (X := X i) (f.calm i)) hg hm boot_min (XA.cons (h.imp fun d1 z => XA.cons (z.imp fun d2 ⟨i, j, e1, e2, hk⟩ => XA.nil fun wa G H vs Q wd rr hq => by
    subst e1 e2
    obtain ⟨v, u, rfl, r1, r2⟩ := rps2 rr
    exact ⟨i, j, by rw [rp_int r1, rp_int r2], hq _ _ G H (Le.refl wd) (.inl (.int _)) hk⟩) hs2) hs) (by decide) (by decide) hs hpl
theorem XE.sum (f : Fm P w K mg base N sc n X) (hg : sc.names.lookup ("sum" : Str) = some .globalImplicit) (hm : mg "sum" = none) (h : XE K X e δ fun d => ∃ ns : List Int, d = .list (ns.map .int) ∧ k (.int ns.sum)) (hs : ∀ i, starEach (e :: []) (X i).env = (false, eval e (X i).env) :: starEach [] (X i).env := by intro _; rfl) (hpl : ∀ i, (backTo pos (starEach [] (X i).env)).any (·.1) = false := by intro _; rfl) :
    XE K X (.Call (.Name "sum" p) [e] [] pos) δ k :=
  XE.cb (r := rSum K) f (fun i => by
    have z := cr_sum (X := X i) (f.calm i)
    rw [f.K_ i] at z
    exact z) hg hm boot_sum (XA.cons (h.imp fun d ⟨ns, e, hk⟩ => XA.nil fun wa G H vs Q wd rr hq => by
    subst e
    obtain ⟨v, rfl, r⟩ := rps1 rr
    obtain ⟨q, us, rfl, g, t⟩ := rp_list r
    rw [dq_ints t] at g
    exact ⟨q, ns, rfl, SqL.of (wd.sub _ _ g), hq _ _ G H (Le.refl wd) (.inl (.int _)) hk⟩) hs) (by decide) (by decide) hs hpl
theorem XE.any (f : Fm P w K mg base N sc n X) (hg : sc.names.lookup ("any" : Str) = some .globalImplicit) (hm : mg "any" = none) (h : XE K X e δ fun d => ∃ bs : List Bool, d = .list (bs.map .bool) ∧ k (.bool (bs.any id))) (hs : ∀ i, starEach (e :: []) (X i).env = (false, eval e (X i).env) :: starEach [] (X i).env := by intro _; rfl) (hpl : ∀ i, (backTo pos (starEach [] (X i).env)).any (·.1) = false := by intro _; rfl) :
    XE K X (.Call (.Name "any" p) [e] [] pos) δ k :=
  XE.cb (r := rAny K) f (fun i => by
    have z := cr_any (X := X i) (f.calm i)
    rw [f.K_ i] at z
    exact z) hg hm boot_any (XA.cons (h.imp fun d ⟨ns, e, hk⟩ => XA.nil fun wa G H vs Q wd rr hq => by
    subst e
    obtain ⟨v, rfl, r⟩ := rps1 rr
    obtain ⟨q, us, rfl, g, t⟩ := rp_list r
    rw [dq_bools t] at g
    exact ⟨q, ns, rfl, SqL.of (wd.sub _ _ g), hq _ _ G H (Le.refl wd) (.inl (.bl _)) hk⟩) hs) (by decide) (by decide) hs hpl
theorem XE.all (f : Fm P w K mg base N sc n X) (hg : sc.names.lookup ("all" : Str) = some .globalImplicit) (hm : mg "all" = none) (h : XE K X e δ fun d => ∃ bs : List Bool, d = .list (bs.map .bool) ∧ k (.bool (bs.all id))) (hs : ∀ i, starEach (e :: []) (X i).env = (false, eval e (X i).env) :: starEach [] (X i).env := by intro _; rfl) (hpl : ∀ i, (backTo pos (starEach [] (X i).env)).any (·.1) = false := by intro _; rfl) :
    XE K X (.Call (.Name "all" p) [e] [] pos) δ k :=
  XE.cb (r := rAll K) f (fun i => by
    have z := cr_all (X := X i) (f.calm i)
    rw [f.K_ i] at z
    exact z) hg hm boot_all (XA.cons (h.imp fun d ⟨ns, e, hk⟩ => XA.nil fun wa G H vs Q wd rr hq => by
    subst e
    obtain ⟨v, rfl, r⟩ := rps1 rr
    obtain ⟨q, us, rfl, g, t⟩ := rp_list r
    rw [dq_bools t] at g
    exact ⟨q, ns, rfl, SqL.of (wd.sub _ _ g), hq _ _ G H (Le.refl wd) (.inl (.bl _)) hk⟩) hs) (by decide) (by decide) hs hpl
theorem XE.tupleOf (f : Fm P w K mg base N sc n X) (hg : sc.names.lookup ("tuple" : Str) = some .globalImplicit) (hm : mg "tuple" = none) (h : XE K X e δ fun d => ∃ ds, d = .list ds ∧ k (.tuple ds)) (hs : ∀ i, starEach (e :: []) (X i).env = (false, eval e (X i).env) :: starEach [] (X i).env := by intro _; rfl) (hpl : ∀ i, (backTo pos (starEach [] (X i).env)).any (·.1) = false := by intro _; rfl) :
    XE K X (.Call (.Name "tuple" p) [e] [] pos) δ k :=
  XE.ct (r := fun xs H Q => ∃ p ys, xs = [.ref p] ∧ ((SqL K H p ys ∧ ∀ l, H l = none → Q (.ref l) (upd H l (.tup ys))) ∨ (SqT K H p ys ∧ Q (.ref p) H))) f (fun i => by
    have z := call_tuple_of (X := X i)
    rw [f.K_ i] at z
    exact z) hg hm PyProof.Rows.boot_tuple (XA.cons (h.imp fun d ⟨ds, e, hk⟩ => XA.nil fun wa G H vs Q wd rr hq => by
    subst e
    obtain ⟨v, rfl, r⟩ := rps1 rr
    obtain ⟨q, us, rfl, g, t⟩ := rp_list r
    exact ⟨q, us, rfl, .inl ⟨SqL.of (wd.sub _ _ g), fun l hl => hq _ _ _ _ (Le.new wd hl) (.inl (.tup upd_same (dqAll_mono (same_new (wd.fresh hl) _) _ _ t))) hk⟩⟩) hs) (by decide) (by decide) hs hpl
/-- list(range(a, b)) -/
theorem XE.listRng {p2 pos2 : Pos} (f : Fm P w K mg base N sc n X) (hg : sc.names.lookup ("list" : Str) = some .globalImplicit) (hm : mg "list" = none) (hg2 : sc.names.lookup ("range" : Str) = some .globalImplicit) (hm2 : mg "range" = none)
    (h : XE K X a δ fun d1 => XE K X b δ fun d2 => ∃ i j : Int, d1 = .int i ∧ d2 = .int j ∧ RgOk i j ∧ k (.list (rngD i (j - i).toNat)))
    (hs : ∀ i, starEach [a, b] (X i).env = (false, eval a (X i).env) :: starEach [b] (X i).env := by intro _; rfl) (hs2 : ∀ i, starEach [b] (X i).env = (false, eval b (X i).env) :: starEach [] (X i).env := by intro _; rfl) (hpl : ∀ i, (backTo pos2 (starEach [b] (X i).env)).any (·.1) = false := by intro _; rfl)
    (hs3 : ∀ i, starEach [.Call (.Name "range" p2) [a, b] [] pos2] (X i).env = (false, eval (.Call (.Name "range" p2) [a, b] [] pos2) (X i).env) :: starEach [] (X i).env := by intro _; rfl) :
    XE K X (.Call (.Name "list" p) [.Call (.Name "range" p2) [a, b] [] pos2] [] pos) δ k := fun wa G H σ Q wd en hq =>
  ⟨tLstRg (tRg2 (rE X a) (rE X b)), fun i => pe_listRg (f.calm i) (f.gl hg i) (by rw [f.mg_ i]; exact hm) (prg_2 (f.gl hg2 i) (by rw [f.mg_ i]; exact hm2) (rE_ok X a i) (rE_ok X b i) (hs i) (hs2 i) (hpl i)) (hs3 i),
    h wa G H σ _ wd en fun v1 d1 G1 H1 l1 r1 h => h wa G1 H1 σ _ l1.wd (en.mono (l1.same wd)) fun v2 d2 G2 H2 l2 r2 h => by
      obtain ⟨i, j, rfl, rfl, ok, hk⟩ := h
      refine ⟨i, j, rp_int r1, rp_int r2, ok, fun q hq2 => hq _ _ _ _ ((l1.trans l2).trans (Le.new l2.wd hq2)) (.inl (.lst upd_same ?_)) hk⟩
      have key : ∀ (G : Hp) (l : List Nat), DqAll G (l.map fun m => V.int (i + (m : Nat))) (l.map fun (m : Nat) => .int (i + m)) := by
        intro G l
        induction l with
        | nil => exact .nil
        | cons m l ih => exact .cons (.int _) ih
      exact key _ _⟩

/-! ### isinstance -/
def tyN : PyData → String
  | .none => "NoneType"
  | .bool _ => "bool"
  | .int _ => "int"
  | .str _ => "str"
  | .list _ => "list"
  | .tuple _ => "tuple"
  | .dict _ => "dict"
theorem tyN_ok {G H : Hp} {v : V} {d : PyData} (sub : Same G H) (h : Dq G v d) : TyX K H v (.type (tyN d)) := by
  cases h with
  | non => exact .base .non
  | bl b => exact .base (.bl b)
  | int i => exact .base (.int i)
  | str x => exact .base (.str x)
  | lst g _ => exact .base (.lst (sub _ _ g))
  | tup g _ => exact .base (.tup (sub _ _ g))
theorem XE.isi {T : Str} {T' : String} {p2 : Pos} (f : Fm P w K mg base N sc n X) (hg : sc.names.lookup ("isinstance" : Str) = some .globalImplicit) (hm : mg "isinstance" = none) (hg2 : sc.names.lookup T = some .globalImplicit) (hm2 : mg T = none) (hv : bootBuiltins T = some (.type T'))
    (h : XE K X e δ fun d => Dt d ∧ ∃ z, kitB (tyN d) T' = some z ∧ k (.bool z)) (hn : T ≠ "__name__" := by decide) (hdb : (T == ("__debug__" : Str)) = false := by decide)
    (hs : ∀ i, starEach [e, .Name T p2] (X i).env = (false, eval e (X i).env) :: starEach [.Name T p2] (X i).env := by intro _; rfl) (hs2 : ∀ i, starEach [.Name T p2] (X i).env = (false, eval (.Name T p2) (X i).env) :: starEach [] (X i).env := by intro _; rfl) (hpl : ∀ i, (backTo pos (starEach [.Name T p2] (X i).env)).any (·.1) = false := by intro _; rfl) :
    XE K X (.Call (.Name "isinstance" p) [e, .Name T p2] [] pos) δ k := fun wa G H σ Q wd en hq =>
  ⟨tCB (rIsi K) (tCons (rE X e) (tCons (tC (.ty T')) tNil)), fun i => by
    have z := call_isi (X := X i)
    rw [f.K_ i] at z
    exact pe_callB z (f.gl hg i) (by rw [f.mg_ i]; exact hm) PyProof.Rows.boot_isinstance (pa_cons (rE_ok X e i) (pa_cons (pe_bltn (f.gl hg2 i) (by rw [f.mg_ i]; exact hm2) hv rfl hn hdb) pa_nil (hs2 i)) (hs i)) (by decide) (by decide) (hs i) (hpl i),
    h wa G H σ _ wd en fun v d G1 H1 l1 r1 ⟨t, z, hz, hk⟩ => ⟨v, .ty T', .type (tyN d), .type T', z, rfl, .ty T', tyN_ok l1.wd.sub (r1.dp t), kit_ty hz, hq _ _ G1 H1 l1 (.inl (.bl z)) hk⟩⟩

/-! ### tables with text keys -/
theorem XE.tabIx {a0 : Addr} {p2 : Pos} (f : Fm P w K mg base N sc n X) (hg : sc.names.lookup x = some .globalImplicit) (hm : mg x = some (.ref a0)) (h : XE K X e δ fun d => ∃ (s : Str) (i : Int), d = .str s ∧ KDct K w a0 s (.int i) ∧ k (.int i))
    (hdb : (x == ("__debug__" : Str)) = false := by decide) (hs : PlainIx e := by intro _ _; rfl) : XE K X (.Subscript (.Name x p2) e pos) δ k := fun wa G H σ Q wd en hq =>
  ⟨tOp (rIxD K w) (tC (.ref a0)) (rE X e), fun i => by
    have z := pe_ix (X := X i) (pos := pos) (ix_kdict (X := X i)) (pe_glob (pos := p2) (f.gl hg i) (by rw [f.mg_ i]; exact hm) (show RelV (.ref a0) (.ref a0) from rfl) hdb) (rE_ok X e i) hs
    rw [f.K_ i, f.w_ i] at z
    exact z, h wa G H σ _ wd en fun v d G1 H1 l1 r1 ⟨s, i, e, kd, hk⟩ => by
      subst e
      exact ⟨a0, s, _, rfl, rp_str r1, kd, hq _ _ G1 H1 l1 (.inl (.int i)) hk⟩⟩
end
end K19
set_option maxHeartbeats 4000000
/-! The plain world: rows, sieves, runs; what each def is to do. -/
namespace K19
open PySem PySem.Spec PyProof.Rows L2
structure Wo (w : World) (K : PySem.W.Frag) (mg : Str → Option Value) : Prop where
  abs_ : mg "abs" = none
  all_ : mg "all" = none
  any_ : mg "any" = none
  bool_ : mg "bool" = none
  enumerate_ : mg "enumerate" = none
  int_ : mg "int" = none
  isinstance_ : mg "isinstance" = none
  len_ : mg "len" = none
  list_ : mg "list" = none
  max_ : mg "max" = none
  min_ : mg "min" = none
  range_ : mg "range" = none
  repr_ : mg "repr" = none
  str_ : mg "str" = none
  sum_ : mg "sum" = none
  tuple_ : mg "tuple" = none
  zip_ : mg "zip" = none
abbrev I (n : Nat) : PyData := .int (n : Int)
/-- rows that go on to the next place -/
inductive PlainOk : Str → List PyData → Prop
  | op (o : Str) (a b : Nat) : o ∈ (["add", "sub", "and", "or", "xor", "left", "right"] : List Str) → a < 8 → b < 8 → PlainOk o [I a, I b]
  | opn (o : Str) (a n : Nat) : o ∈ (["addn", "andn", "orn", "xorn"] : List Str) → a < 8 → n < 65536 → PlainOk o [I a, I n]
  | sh (o : Str) (a n : Nat) : o ∈ (["leftn", "rightn"] : List Str) → a < 8 → n < 16 → PlainOk o [I a, I n]
  | set (a n : Nat) : a < 8 → n < 65536 → PlainOk "set" [I a, I n]
  | move (a b : Nat) : a < 8 → b < 8 → PlainOk "move" [I a, I b]
  | length (a : Nat) : a < 8 → PlainOk "length" [I a]
  | take (a k : Nat) : a < 8 → k < 16 → PlainOk "take" [I a, I k]
  | keep (a k : Nat) : a < 8 → k < 16 → PlainOk "keep" [I a, I k]
  | byte (a b s : Nat) : a < 8 → b < 8 → s < 256 → PlainOk "byte" [I a, I b, I s]
  | pair (a b s : Nat) : a < 8 → b < 8 → s < 256 → PlainOk "pair" [I a, I b, I s]
  | write (a b s : Nat) : a < 8 → b < 8 → s < 256 → PlainOk "write" [I a, I b, I s]
  | cell (a t b : Nat) : a < 8 → t < 6 → b < 8 → PlainOk "cell" [I a, I t, I b]
  | fill (a t b : Nat) : a < 8 → t < 6 → b < 8 → PlainOk "fill" [I a, I t, I b]
  | count (t b : Nat) : t < 6 → b < 8 → PlainOk "count" [I t, I b]
  | find (a t b : Nat) : a < 8 → t < 6 → b < 8 → PlainOk "find" [I a, I t, I b]
  | value (a t b : Nat) : a < 8 → t < 6 → b < 8 → PlainOk "value" [I a, I t, I b]
  | change (a t b : Nat) : a < 8 → t < 6 → b < 8 → PlainOk "change" [I a, I t, I b]
  | ask (a b : Nat) : a < 8 → b < 8 → PlainOk "ask" [I a, .str "ones", I b]
  | answer (a : Nat) : a < 8 → PlainOk "answer" [I a]
def conds : List Str := ["same", "other", "below", "from", "bit", "nobit"]
inductive Row
  | plain (o : Str) (xs : List PyData)
  | begin (l : Nat)
  | again (l m d : Nat)
  | jump (d : Nat)
  | when (c : Str) (a b d : Nat)
  | whenn (c : Str) (a n d : Nat)
def Row.enc : Row → PyData
  | .plain o xs => .tuple (.str o :: xs)
  | .begin l => .tuple [.str "begin", I l]
  | .again l m d => .tuple [.str "again", I l, I m, I d]
  | .jump d => .tuple [.str "jump", I d]
  | .when c a b d => .tuple [.str "when", .str c, I a, I b, I d]
  | .whenn c a n d => .tuple [.str "whenn", .str c, I a, I n, I d]
def Row.Ok : Row → Prop
  | .plain o xs => PlainOk o xs
  | .begin l => l < 4
  | .again l m d => l < 4 ∧ 1 ≤ m ∧ m ≤ 100 ∧ d < 120
  | .jump d => d < 120
  | .when c a b d => c ∈ conds ∧ a < 8 ∧ b < 8 ∧ d < 120
  | .whenn c a n d => c ∈ conds ∧ a < 8 ∧ n < 65536 ∧ d < 120
def encS (rs : List Row) : PyData := .tuple (rs.map Row.enc)
structure SieveOk (rs : List Row) : Prop where
  pos : 0 < rs.length
  len : rs.length ≤ 100
  rows : ∀ r ∈ rs, r.Ok
/-! ### runs -/
inductive Tab
  | arr (may : Nat) (ws : List Nat)
  | prs (may : Nat) (ps : List (Nat × Nat))
abbrev Wds (ws : List Nat) : Prop := ∀ x ∈ ws, x < 65536
def Ts (ws : List Nat) : PyData := .tuple (ws.map I)
def Tab.enc : Tab → PyData
  | .arr m ws => .tuple [.str "array", I m, Ts ws]
  | .prs m ps => .tuple [.str "pairs", I m, .tuple (ps.map fun q => .tuple [I q.1, I q.2])]
def Tab.Ok : Tab → Prop
  | .arr _ ws => Wds ws ∧ ws.length ≤ 1000
  | .prs _ ps => (∀ q ∈ ps, q.2 < 65536) ∧ ps.length ≤ 1000
def Tab.rows : Tab → PyData
  | .arr _ ws => Ts ws
  | .prs _ ps => .tuple (ps.map fun q => .tuple [I q.1, I q.2])
def KindOk (d : PyData) : Prop := ∃ (s : Str) (m c : Nat), d = .tuple [.str s, I m, I c] ∧ (s = "array" ∨ s = "pairs") ∧ m ≤ 1 ∧ 1 ≤ c ∧ c ≤ 16
def GrantOk (d : PyData) : Prop := ∃ (a b w : Nat) (ks : List PyData), d = .tuple [I a, I b, I w, .tuple ks] ∧ a ≤ b ∧ b ≤ 200 ∧ w ≤ 1 ∧ ks.length ≤ 3 ∧ ∀ q ∈ ks, KindOk q
structure Run where
  ws : List Nat
  ca : List Nat
  cn : List Nat
  p : Nat
  pk : List Nat
  tb : List Tab
  clk : Nat
  n : Nat
  e : PyData
  wr : Nat
def Run.enc (r : Run) : PyData := .tuple [Ts r.ws, Ts r.ca, Ts r.cn, I r.p, Ts r.pk, .tuple (r.tb.map Tab.enc), I r.clk, I r.n, r.e, I r.wr]
/-- a run's end: none, or a pair -/
def EndOk (e : PyData) : Prop := e = .none ∨ (∃ s : Str, PyData.strOk s = true ∧ e = .tuple [.str "fault", .str s]) ∨ ∃ x : Nat, e = .tuple [.str "answer", I x]
structure Run.Ok (r : Run) : Prop where
  ws8 : r.ws.length = 8
  wsw : Wds r.ws
  ca16 : r.ca.length = 16
  caw : Wds r.ca
  cn4 : r.cn.length = 4
  pkl : r.pk.length ≤ 1000
  pkb : ∀ x ∈ r.pk, x < 256
  tbl : r.tb.length ≤ 100
  tbo : ∀ t ∈ r.tb, t.Ok
  clk : r.clk < 65536
  en : EndOk r.e
/-- where a row may go on -/
inductive Goes : Row → Nat → List Nat → Nat → List Nat → Prop
  | plain {o xs p c} : Goes (.plain o xs) p c (p + 1) c
  | begin {l p c} : Goes (.begin l) p c (p + 1) (c.set l 0)
  | back {l m d p c x} : c[l]? = some x → x < m → Goes (.again l m d) p c d (c.set l (x + 1))
  | on {l m d p c x} : c[l]? = some x → m ≤ x → Goes (.again l m d) p c (p + 1) c
  | jump {d p c} : Goes (.jump d) p c d c
  | when {cd a b d p c} : Goes (.when cd a b d) p c d c
  | when0 {cd a b d p c} : Goes (.when cd a b d) p c (p + 1) c
  | whenn {cd a n d p c} : Goes (.whenn cd a n d) p c d c
  | whenn0 {cd a n d p c} : Goes (.whenn cd a n d) p c (p + 1) c
/-- one step -/
inductive Stp (rs : List Row) (r r' : Run) : Prop
  | over : r.e ≠ .none → r' = r → Stp rs r r'
  | out : r.e = .none → rs.length ≤ r.p → r'.n = r.n + 1 → r'.e = .tuple [.str "fault", .str "place"] → Stp rs r r'
  | ends : r.e = .none → r.p < rs.length → r'.n = r.n + 1 → r'.e ≠ .none → Stp rs r r'
  | goes (w : Row) : r.e = .none → rs[r.p]? = some w → r'.n = r.n + 1 → r'.e = .none → Goes w r.p r.cn r'.p r'.cn → Stp rs r r'
/-! ### what the table rows find -/
def Served (o : Str) (t : Nat) (ks : List (Str × Nat)) : Prop :=
  ∃ q, ks[t]? = some q ∧ q.1 = (if o ∈ (["cell", "fill", "count"] : List Str) then "array" else "pairs") ∧ (o ∈ (["fill", "count", "change"] : List Str) → q.2 = 1)
def Tab.kind : Tab → Str × Nat
  | .arr m _ => ("array", m)
  | .prs m _ => ("pairs", m)
def Tab.many : Tab → Nat
  | .arr _ ws => ws.length
  | .prs _ ps => ps.length
end K19
set_option maxHeartbeats 4000000
/-! The rules in the form in which the tactic takes them. -/
namespace K19
open PySem PySem.Spec PyProof.Rows L2
theorem ifd {c : Prop} [Decidable c] {A B : Prop} (h1 : c → A) (h2 : ¬c → B) : if decide c = true then A else B := by
  by_cases h : c
  · simp only [h, decide_true, if_true]
    exact h1 h
  · simp only [h, decide_false, Bool.false_eq_true, if_false]
    exact h2 h
theorem ifb {c : Bool} {A B : Prop} (h1 : c = true → A) (h2 : c = false → B) : if c = true then A else B := by
  cases c with
  | true => exact h1 rfl
  | false => exact h2 rfl
theorem ifT {c : Bool} {A B : Prop} (h : c = true) (a : A) : if c = true then A else B := by
  rw [if_pos h]
  exact a
theorem ifF {c : Bool} {A B : Prop} (h : c = false) (b : B) : if c = true then A else B := by
  rw [h, if_neg Bool.false_ne_true]
  exact b
inductive At : List Str → Str → Nat → Prop
  | z {x : Str} {l : List Str} : At (x :: l) x 0
  | s {x y : Str} {l : List Str} {n : Nat} : At l x n → At (y :: l) x (n + 1)
theorem At.ok {l : List Str} {x : Str} {n : Nat} (h : At l x n) : l[n]? = some x := by
  induction h with
  | z => rfl
  | s _ ih => exact ih
theorem dts_nil : ∀ d ∈ ([] : List PyData), Dt d := fun _ h => nomatch h
theorem dts_cons {d : PyData} {ds : List PyData} (h : Dt d) (t : ∀ d ∈ ds, Dt d) : ∀ e ∈ d :: ds, Dt e := fun e m => by
  rcases List.mem_cons.mp m with z | m
  · rw [z]
    exact h
  · exact t e m
/-- texts -/
def txts : List PyData → Option (List Str)
  | [] => some []
  | .str x :: l => (txts l).map (x :: ·)
  | _ :: _ => none
theorem txts_ok : ∀ {ds : List PyData} {ss : List Str}, txts ds = some ss → ds = ss.map .str
  | [], ss, h => by
    cases h
    rfl
  | .str x :: l, ss, h => by
    have h : (txts l).map (x :: ·) = some ss := h
    cases e : txts l with
    | none =>
      rw [e] at h
      cases h
    | some t =>
      rw [e] at h
      cases h
      rw [txts_ok e]
      rfl
  | .none :: _, _, h => nomatch h
  | .bool _ :: _, _, h => nomatch h
  | .int _ :: _, _, h => nomatch h
  | .list _ :: _, _, h => nomatch h
  | .tuple _ :: _, _, h => nomatch h
  | .dict _ :: _, _, h => nomatch h
section
variable {ι : Type} {K : PySem.W.Frag} {X : ι → Cx} {e a b c o : Expr} {es : List Expr} {δ : DS} {p pos apos cpos : Pos} {P : Program} {w : World} {mg : Str → Option Value} {base : Heap} {N ps : List Str} {sc : Scope} {n j : Nat} {k : PyData → Prop} {kt : Bool → Prop} {x : Str} {sp : Sc} {E : DEnds} {s : Sta} {body : List Stmt}
theorem XE.v {d : PyData} (f : Fm P w K mg base N sc n X) (hN : At N x j) (hv : Vis sc x) (hδ : δ[j]? = some (some d)) (h : k d) (hd : (x == ("__debug__" : Str)) = false) (hcd : (x == ("__classdict__" : Str)) = false) : XE K X (.Name x pos) δ k :=
  XE.var f hN.ok hv hδ h hd hcd
theorem XS.se {p2 : Pos} {m : Option (Nat × List PyData)} (f : Fm P w K mg base N sc n X) (hN : N.Nodup) (hi : At N x j) (hx : Loc sc x) (h : XE K X e δ fun d => E.nx (δ.set j (some d), dropM j m))
    (hs : ∀ i, swapsWith e (some (.Name x p2)) pos.line (X i).env = pure false) (hf : ∀ i, (X i).fn x = true ∨ (X i).env.scope.names.lookup x = some .local) : XS K X (.Assign [.Name x p2] e pos) E (δ, m) :=
  XS.set f hN hi.ok hx h hs hf
theorem XS.se0 {p2 : Pos} (f : Fm P w K mg base N sc n X) (hN : N.Nodup) (hi : At N x j) (hx : Loc sc x) (h : XE K X e δ fun d => E.nx (δ.set j (some d), none))
    (hs : ∀ i, swapsWith e (some (.Name x p2)) pos.line (X i).env = pure false) (hf : ∀ i, (X i).fn x = true ∨ (X i).env.scope.names.lookup x = some .local) : XS K X (.Assign [.Name x p2] e pos) E (δ, none) :=
  XS.set f hN hi.ok hx h hs hf
theorem XS.se1 {p2 : Pos} {q : Nat} {ds : List PyData} (f : Fm P w K mg base N sc n X) (hN : N.Nodup) (hi : At N x j) (hx : Loc sc x) (hq : q ≠ j) (h : XE K X e δ fun d => E.nx (δ.set j (some d), some (q, ds)))
    (hs : ∀ i, swapsWith e (some (.Name x p2)) pos.line (X i).env = pure false) (hf : ∀ i, (X i).fn x = true ∨ (X i).env.scope.names.lookup x = some .local) : XS K X (.Assign [.Name x p2] e pos) E (δ, some (q, ds)) :=
  XS.set f hN hi.ok hx (h.imp fun d z => by
    rw [show dropM j (δ, some (q, ds)).2 = some (q, ds) from if_neg hq]
    exact z) hs hf
theorem XS.r {m : Option (Nat × List PyData)} (h : XE K X e δ E.rt) : XS K X (.Return (some e) pos) E (δ, m) := XS.ret h
theorem XS.if {p q : List Stmt} {m : Option (Nat × List PyData)} (h : XT K X c δ fun z => if z = true then XSs K X p E (δ, m) else XSs K X q E (δ, m)) : XS K X (.If c p q pos) E (δ, m) := XS.ite h
theorem XS.ap {ds : List PyData} {i : Nat} {p1 p2 p3 : Pos} (f : Fm P w K mg base N sc n X) (hN : At N x i) (hv : Vis sc x) (hl : ds.length < 1000000) (h : XE K X e δ fun d => Dt d ∧ E.nx (δ, some (i, ds ++ [d])))
    (hd : (x == ("__debug__" : Str)) = false) (hcd : (x == ("__classdict__" : Str)) = false)
    (hsw : ∀ i, swapsWith (.Call (.Attribute (.Name x p1) "append" p2) [e] [] p3) none pos.line (X i).env = pure false)
    (hbase : ∀ i, attributeBase (.Name x p1) "append" (X i).env (eval (.Name x p1) (X i).env) = eval (.Name x p1) (X i).env)
    (hfew : ∀ i, ((backTo p3 (starEach (e :: []) (X i).env)).all (fun x => !x.1) && (backToKw p3 (keywordEach [] (X i).env)).all (fun x => x.1.isSome)
      && decide ((e :: []).length + ([] : List Keyword).length + (if ([] : List Keyword).isEmpty then 0 else 1) < 30)) = true)
    (hline : (p2.endLine == p3.line) = true) (hs : ∀ i, starEach (e :: []) (X i).env = (false, eval e (X i).env) :: starEach [] (X i).env) (hplain : ∀ i, (backTo p3 (starEach [] (X i).env)).any (·.1) = false) :
    XS K X (.Expr (.Call (.Attribute (.Name x p1) "append" p2) [e] [] p3) pos) E (δ, some (i, ds)) :=
  XS.app f rfl hN.ok hv hl h hd hcd hsw hbase hfew hline hs hplain
theorem XS.wl {o i : Expr} {p2 : Pos} {m : Option (Nat × List PyData)} (h : XE K X e δ fun d => ∃ z, d = .int z ∧ XE K X o δ fun d1 => d1 = wel ∧ XE K X i δ fun d2 => ∃ j : Int, d2 = .int j ∧ 0 ≤ j ∧ j < 3 ∧ E.nx (δ, m))
    (ha : ∀ k v, assign (.Subscript o i p2) (X k).env v = (do
      let ov ← holding [v] (eval o (X k).env)
      let iv ← holding [v, ov] (eval i (X k).env)
      standAt p2
      holding [v, ov, iv] (setItem ov iv v)
      release [v, ov, iv] []))
    (hs : ∀ k, swapsWithSole [.Subscript o i p2] e pos.line (X k).env = pure false) (hw : ∀ k, swappedStores [.Subscript o i p2] e (X k).env = pure none) (h1 : ∀ k, (assignEach [.Subscript o i p2] (X k).env).map (·.2) = [assign (.Subscript o i p2) (X k).env]) :
    XS K X (.Assign [.Subscript o i p2] e pos) E (δ, m) := XS.well h ha hs hw h1
theorem XS.m {p2 : Pos} {m : Option (Nat × List PyData)} (f : Fm P w K mg base N sc n X) (hN : N.Nodup) (hi : At N x j) (hx : Loc sc x) (hj : j < δ.length) (h : XL K X e δ fun ds => E.nx (δ.set j none, some (j, ds)))
    (hs : ∀ i, swapsWith e (some (.Name x p2)) pos.line (X i).env = pure false) (hf : ∀ i, (X i).fn x = true ∨ (X i).env.scope.names.lookup x = some .local) :
    XS K X (.Assign [.Name x p2] e pos) E (δ, m) := XS.setM f hN hi.ok hx hj h hs hf
theorem XS.for {tg iter : Expr} {m : Option (Nat × List PyData)} (f : Fm P w K mg base N sc n X) (js : List Nat) (Pv : Nat → Sta → Prop)
    (hs : ∀ k x, foldedSetIterable iter (X k).env x = pure x) (h : XI K X tg iter δ fun ds => Pv 0 (δ, m) ∧ (∀ i d δ' m', ds[i]? = some d → Pv i (δ', m') → (∀ q, m' = some q → q.1 ∉ js) ∧ XG K X tg d δ' js fun δ2 => XSs K X body ⟨Pv (i + 1), E.rt, E.nx, Pv (i + 1)⟩ (δ2, m')) ∧ ∀ δ' m', Pv ds.length (δ', m') → E.nx (δ', m')) :
    XS K X (.For tg iter body [] pos) E (δ, m) :=
  XS.loop f js Pv (fun wa G H σ R wd en hq => h wa G H σ R wd en fun J ds G' H' l w ⟨h1, h2, h3⟩ => hq J ds G' H' l w ⟨h1, fun i d s' hd hp => h2 i d s'.1 s'.2 hd hp, fun s' hp => h3 s'.1 s'.2 hp⟩) hs
/-- x, y = [..], b -/
theorem XS.pm {i1 i2 : Nat} {x y : Str} {px py pt : Pos} {q1 q2 : Nat} {pt2 : Pos} {m : Option (Nat × List PyData)} (f : Fm P w K mg base N sc n X) (hN : N.Nodup) (hi : At N x i1) (hj : At N y i2) (hij : i1 ≠ i2)
    (hx : sc.names.lookup x = some .local) (hy : sc.names.lookup y = some .local) (h1 : i1 < δ.length) (h : XL K X a δ fun ds => XE K X b δ fun d2 => E.nx ((δ.set i1 none).set i2 (some d2), some (i1, ds)))
    (hw : ∀ i, swappedStores [.Tuple [.Name x px, .Name y py] q1 pt] (.Tuple [a, b] q2 pt2) (X i).env = pure (some [x, y]))
    (hs : ∀ i, swapsWithSole [.Tuple [.Name x px, .Name y py] q1 pt] (.Tuple [a, b] q2 pt2) pos.line (X i).env = pure false)
    (hsa : ∀ i, starEach [a, b] (X i).env = (false, eval a (X i).env) :: starEach [b] (X i).env) (hsb : ∀ i, starEach [b] (X i).env = (false, eval b (X i).env) :: starEach [] (X i).env) :
    XS K X (.Assign [.Tuple [.Name x px, .Name y py] q1 pt] (.Tuple [a, b] q2 pt2) pos) E (δ, m) := XS.parM f hN hi.ok hj.ok hij hx hy h1 h hw hs hsa hsb
theorem XSs.fr {st : List Stmt} {i : Nat} {ds : List PyData} (h : XSs K X st E (δ.set i (some (.list ds)), none)) : XSs K X st E (δ, some (i, ds)) := XSs.freeze (s := (δ, some (i, ds))) h rfl
theorem XS.p2 {i1 i2 : Nat} {x y : Str} {px py pt : Pos} {q1 q2 : Nat} {pt2 : Pos} (f : Fm P w K mg base N sc n X) (hN : N.Nodup) (hi : At N x i1) (hj : At N y i2) (hij : i1 ≠ i2)
    (hx : sc.names.lookup x = some .local) (hy : sc.names.lookup y = some .local) (h : XE K X a δ fun d1 => XE K X b δ fun d2 => E.nx ((δ.set i1 (some d1)).set i2 (some d2), none))
    (hw : ∀ i, swappedStores [.Tuple [.Name x px, .Name y py] q1 pt] (.Tuple [a, b] q2 pt2) (X i).env = pure (some [x, y]))
    (hs : ∀ i, swapsWithSole [.Tuple [.Name x px, .Name y py] q1 pt] (.Tuple [a, b] q2 pt2) pos.line (X i).env = pure false)
    (hsa : ∀ i, starEach [a, b] (X i).env = (false, eval a (X i).env) :: starEach [b] (X i).env) (hsb : ∀ i, starEach [b] (X i).env = (false, eval b (X i).env) :: starEach [] (X i).env) :
    XS K X (.Assign [.Tuple [.Name x px, .Name y py] q1 pt] (.Tuple [a, b] q2 pt2) pos) E (δ, none) :=
  XS.par f hN hi.ok hj.ok hij hx hy (fun i ds e => by cases e) (XA.cons (h.imp fun d1 z => XA.cons (z.imp fun d2 z => XA.nil ⟨d1, d2, rfl, z⟩) hsb) hsa) hw hs
theorem XS.p3 {i1 i2 i3 : Nat} {x y z : Str} {px py pz pt : Pos} {q1 q2 : Nat} {pt2 : Pos} (f : Fm P w K mg base N sc n X) (hN : N.Nodup) (hi : At N x i1) (hj : At N y i2) (hl : At N z i3) (hij : i1 ≠ i2) (hil : i1 ≠ i3) (hjl : i2 ≠ i3)
    (hx : sc.names.lookup x = some .local) (hy : sc.names.lookup y = some .local) (hz : sc.names.lookup z = some .local) (h : XE K X a δ fun d1 => XE K X b δ fun d2 => XE K X c δ fun d3 => E.nx (((δ.set i1 (some d1)).set i2 (some d2)).set i3 (some d3), none))
    (hw : ∀ i, swappedStores [.Tuple [.Name x px, .Name y py, .Name z pz] q1 pt] (.Tuple [a, b, c] q2 pt2) (X i).env = pure (some [x, y, z]))
    (hs : ∀ i, swapsWithSole [.Tuple [.Name x px, .Name y py, .Name z pz] q1 pt] (.Tuple [a, b, c] q2 pt2) pos.line (X i).env = pure false)
    (hsa : ∀ i, starEach [a, b, c] (X i).env = (false, eval a (X i).env) :: starEach [b, c] (X i).env) (hsb : ∀ i, starEach [b, c] (X i).env = (false, eval b (X i).env) :: starEach [c] (X i).env) (hsc : ∀ i, starEach [c] (X i).env = (false, eval c (X i).env) :: starEach [] (X i).env) :
    XS K X (.Assign [.Tuple [.Name x px, .Name y py, .Name z pz] q1 pt] (.Tuple [a, b, c] q2 pt2) pos) E (δ, none) := by
  have h2 : XA K X [a, b, c] δ fun ds => ∃ d1 d2 d3, ds = [d1, d2, d3] ∧ E.nx (((δ.set i1 (some d1)).set i2 (some d2)).set i3 (some d3), none) :=
    XA.cons (h.imp fun d1 z => XA.cons (z.imp fun d2 z => XA.cons (z.imp fun d3 z => XA.nil ⟨d1, d2, d3, rfl, z⟩) hsc) hsb) hsa
  intro wa G0 H0 Gb σ G H D I d
  refine ⟨tPar3 i1 i2 i3 (rA X [a, b, c]), fun i => ps_par3 (f.calm i) (by rw [f.N_ i]; exact hN) (by rw [f.N_ i]; exact hi.ok) (by rw [f.N_ i]; exact hj.ok) (by rw [f.N_ i]; exact hl.ok) hij hil hjl (by rw [f.sc_ i]; exact hx) (by rw [f.sc_ i]; exact hy) (by rw [f.sc_ i]; exact hz) (rA_ok X [a, b, c] i) (hw i) (hs i),
    h2 wa G H σ _ I.le.wd I.en fun vs ds G1 H1 l r q => ?_⟩
  obtain ⟨d1, d2, d3, rfl, q⟩ := q
  cases r with
  | cons r1 r2 =>
    cases r2 with
    | cons r2 r3 =>
      cases r3 with
      | cons r3 r4 =>
        cases r4
        have J := I.step l
        exact ⟨_, _, _, rfl, d.nx _ _ G1 H1 ⟨J.le, J.gb, ((J.en.set (slot_some r1) i1).set (slot_some r2) i2).set (slot_some r3) i3, fun _ _ e => by cases e⟩ q⟩
theorem XS.lcS {elt tg iter : Expr} {ifs : List Expr} {scope : Scope} {px p2 : Pos} (f : Fm P w K mg base N sc n X) (hN : N.Nodup) (hi : At N x j) (hx : sc.names.lookup x = some .local) (own : List (Str × Nat)) (ok : BlkOk N sc scope own)
    (h : XI K X tg iter δ fun ds => LcK K X scope elt tg ifs δ (own.map (·.2)) ds fun ds => E.nx (δ.set j (some (.list ds)), none))
    (hsw : ∀ i, swapsWith (.ListComp elt [⟨tg, iter, ifs, 0⟩] scope pos) (some (.Name x px)) p2.line (X i).env = pure true) (hs : ∀ i x, foldedSetIterable iter (X i).env x = pure x) :
    XS K X (.Assign [.Name x px] (.ListComp elt [⟨tg, iter, ifs, 0⟩] scope pos) p2) E (δ, none) := XS.setLc f hN hi.ok hx ok h hsw hs
theorem XG.nm {d : PyData} {kd : DS → Prop} {js : List Nat} (f : Fm P w K mg base N sc n X) (hN : N.Nodup) (hi : At N x j) (hx : Loc sc x) (hj : j ∈ js) (h : kd (δ.set j (some d)))
    (hf : ∀ i, (X i).fn x = true ∨ (X i).env.scope.names.lookup x = some .local) : XG K X (.Name x pos) d δ js kd := XG.name f hN hi.ok hx hj h hf
theorem XG.t {tgs : List Expr} {x1 : Nat} {ds : List PyData} {kd : DS → Prop} {js : List Nat} (f : Fm P w K mg base N sc n X) (hl : ds.length = tgs.length) (h : XGs K X tgs ds δ js kd)
    (hn : ∀ i, (assignEach tgs (X i).env).length = tgs.length) (hst : ∀ i, (assignEach tgs (X i).env).findIdx? (·.1) = none) : XG K X (.Tuple tgs x1 pos) (.tuple ds) δ js kd :=
  XG.tup f ⟨ds, rfl, hl, h⟩ hn hst
/-! in, not in of texts -/
def InS (d1 d2 : PyData) (kt : Bool → Prop) : Prop := ∃ (s : Str) (ss : List Str), d1 = .str s ∧ ((∃ ds, (d2 = .list ds ∨ d2 = .tuple ds) ∧ txts ds = some ss) ∨ d2 = kon ss) ∧ kt (decide (s ∈ ss))
theorem InS.to {d1 d2 : PyData} (h : InS d1 d2 kt) : ∃ (s : Str) (ss : List Str), d1 = .str s ∧ (d2 = .list (ss.map .str) ∨ d2 = .tuple (ss.map .str) ∨ d2 = kon ss) ∧ kt (decide (s ∈ ss)) := by
  obtain ⟨s, ss, e, h, q⟩ := h
  refine ⟨s, ss, e, ?_, q⟩
  rcases h with ⟨ds, h, z⟩ | h
  · rw [txts_ok z] at h
    rcases h with h | h
    · exact .inl h
    · exact .inr (.inl h)
  · exact .inr (.inr h)
theorem XE.inS (f : Fm P w K mg base N sc n X) (ha : XE K X a δ fun d1 => XE K X b δ fun d2 => InS d1 d2 fun z => k (.bool z)) (hm : behindInMarks .In b = false) : XE K X (.Compare a [.In] [b] pos) δ k :=
  XE.isin f (ha.imp fun _ h => h.imp fun _ h => .inl h.to) hm
theorem XT.inS (f : Fm P w K mg base N sc n X) (ha : XE K X a δ fun d1 => XE K X b δ fun d2 => InS d1 d2 kt) (hm : behindInMarks .In b = false) : XT K X (.Compare a [.In] [b] pos) δ kt :=
  XT.isin f (ha.imp fun _ h => h.imp fun _ h => .inl h.to) hm
theorem XE.ninS (f : Fm P w K mg base N sc n X) (ha : XE K X a δ fun d1 => XE K X b δ fun d2 => InS d1 d2 fun z => k (.bool (!z))) (hm : behindInMarks .NotIn b = false) : XE K X (.Compare a [.NotIn] [b] pos) δ k :=
  XE.notin f (ha.imp fun _ h => h.imp fun _ h => h.to) hm
theorem XT.ninS (f : Fm P w K mg base N sc n X) (ha : XE K X a δ fun d1 => XE K X b δ fun d2 => InS d1 d2 fun z => kt (!z)) (hm : behindInMarks .NotIn b = false) : XT K X (.Compare a [.NotIn] [b] pos) δ kt :=
  XT.notin f (ha.imp fun _ h => h.imp fun _ h => h.to) hm
theorem cutD_len (ds : List PyData) (lo hi : Option Int) : (cutD ds lo hi).length ≤ ds.length := by
  unfold cutD
  rw [List.length_take, List.length_drop]
  omega
/-- a list index -/
theorem ix_of {ds : List PyData} {i : Nat} {d : PyData} {d1 : PyData} (e1 : d1 = .tuple ds ∨ d1 = .list ds) (hi : ds[i]? = some d) (h : k d) : IxK d1 (I i) k :=
  .inl ⟨ds, _, d, e1, rfl, atI_nat hi, h⟩
theorem ix_wel {i : Int} (h0 : 0 ≤ i) (h3 : i < 3) (h : ∀ z : Int, k (.int z)) : IxK wel (.int i) k := .inr ⟨rfl, i, rfl, h0, h3, h⟩
end
end K19
set_option maxHeartbeats 4000000
/-! The defs: names, scopes, starts (printed by gen_defs.py). -/
namespace K19
open PySem PySem.Spec PyProof.Rows L2
abbrev nmIsWhole : List Str := ["value"]
theorem scIsWhole : FnScope nmIsWhole ["value"] (defScope sIsWhole) := ⟨rfl, rfl, rfl, by decide +kernel, rfl, by decide +kernel, by decide +kernel⟩
abbrev nmIsBetween : List Str := ["value", "low", "high"]
theorem scIsBetween : FnScope nmIsBetween ["value", "low", "high"] (defScope sIsBetween) := ⟨rfl, rfl, rfl, by decide +kernel, rfl, by decide +kernel, by decide +kernel⟩
abbrev nmFieldsBy : List Str := ["name"]
theorem scFieldsBy : FnScope nmFieldsBy ["name"] (defScope sFieldsBy) := ⟨rfl, rfl, rfl, by decide +kernel, rfl, by decide +kernel, by decide +kernel⟩
abbrev nmIsField : List Str := ["field", "value"]
theorem scIsField : FnScope nmIsField ["field", "value"] (defScope sIsField) := ⟨rfl, rfl, rfl, by decide +kernel, rfl, by decide +kernel, by decide +kernel⟩
abbrev nmIsRowBy : List Str := ["value", "fields", "field", "each"]
theorem scIsRowBy : FnScope nmIsRowBy ["value"] (defScope sIsRowBy) := ⟨rfl, rfl, rfl, by decide +kernel, rfl, by decide +kernel, by decide +kernel⟩
abbrev nmWrongInSieve : List Str := ["value", "index", "each"]
theorem scWrongInSieve : FnScope nmWrongInSieve ["value"] (defScope sWrongInSieve) := ⟨rfl, rfl, rfl, by decide +kernel, rfl, by decide +kernel, by decide +kernel⟩
abbrev nmCheckSieve : List Str := ["value", "found"]
theorem scCheckSieve : FnScope nmCheckSieve ["value"] (defScope sCheckSieve) := ⟨rfl, rfl, rfl, by decide +kernel, rfl, by decide +kernel, by decide +kernel⟩
abbrev nmAimOf : List Str := ["row"]
theorem scAimOf : FnScope nmAimOf ["row"] (defScope sAimOf) := ⟨rfl, rfl, rfl, by decide +kernel, rfl, by decide +kernel, by decide +kernel⟩
abbrev nmLoopsBy : List Str := ["sieve", "place", "row"]
theorem scLoopsBy : FnScope nmLoopsBy ["sieve"] (defScope sLoopsBy) := ⟨rfl, rfl, rfl, by decide +kernel, rfl, by decide +kernel, by decide +kernel⟩
abbrev nmDoCross : List Str := ["one", "two", "is_whole"]
theorem scDoCross : FnScope nmDoCross ["one", "two"] (defScope sDoCross) := ⟨rfl, rfl, rfl, by decide +kernel, rfl, by decide +kernel, by decide +kernel⟩
abbrev nmBackFlaw : List Str := ["sieve", "place", "_", "counter", "aim", "loops", "own", "loop", "others", "other"]
theorem scBackFlaw : FnScope nmBackFlaw ["sieve", "place"] (defScope sBackFlaw) := ⟨rfl, rfl, rfl, by decide +kernel, rfl, by decide +kernel, by decide +kernel⟩
abbrev nmFlawOf : List Str := ["sieve", "place", "row"]
theorem scFlawOf : FnScope nmFlawOf ["sieve", "place"] (defScope sFlawOf) := ⟨rfl, rfl, rfl, by decide +kernel, rfl, by decide +kernel, by decide +kernel⟩
abbrev nmFlawsBy : List Str := ["sieve", "place", "each"]
theorem scFlawsBy : FnScope nmFlawsBy ["sieve"] (defScope sFlawsBy) := ⟨rfl, rfl, rfl, by decide +kernel, rfl, by decide +kernel, by decide +kernel⟩
abbrev nmTimesOf : List Str := ["loops", "place", "found", "first", "last", "_", "most"]
theorem scTimesOf : FnScope nmTimesOf ["loops", "place"] (defScope sTimesOf) := ⟨rfl, rfl, rfl, by decide +kernel, rfl, by decide +kernel, by decide +kernel⟩
abbrev nmBoundBy : List Str := ["sieve", "loops", "place"]
theorem scBoundBy : FnScope nmBoundBy ["sieve"] (defScope sBoundBy) := ⟨rfl, rfl, rfl, by decide +kernel, rfl, by decide +kernel, by decide +kernel⟩
abbrev nmFlaws : List Str := ["sieve"]
theorem scFlaws : FnScope nmFlaws ["sieve"] (defScope sFlaws) := ⟨rfl, rfl, rfl, by decide +kernel, rfl, by decide +kernel, by decide +kernel⟩
abbrev nmStepsBound : List Str := ["sieve"]
theorem scStepsBound : FnScope nmStepsBound ["sieve"] (defScope sStepsBound) := ⟨rfl, rfl, rfl, by decide +kernel, rfl, by decide +kernel, by decide +kernel⟩
abbrev nmLWell : List Str := ["_law_script", "_law_turn", "_law_start", "_law_own", "_law_mixed", "_law_cell"]
theorem scLWell : FnScope nmLWell ["_law_script", "_law_turn", "_law_start"] (defScope sLWell) := ⟨rfl, rfl, rfl, by decide +kernel, rfl, by decide +kernel, by decide +kernel⟩
abbrev nmLDraw : List Str := ["_law_well_here", "_law_size", "_law_digit", "_law_seed"]
theorem scLDraw : FnScope nmLDraw ["_law_well_here", "_law_size"] (defScope sLDraw) := ⟨rfl, rfl, rfl, by decide +kernel, rfl, by decide +kernel, by decide +kernel⟩
abbrev nmLPick : List Str := ["_law_well_here", "_law_some"]
theorem scLPick : FnScope nmLPick ["_law_well_here", "_law_some"] (defScope sLPick) := ⟨rfl, rfl, rfl, by decide +kernel, rfl, by decide +kernel, by decide +kernel⟩
abbrev nmLPlain : List Str := ["_law_op", "_law_one", "_law_two", "_law_far"]
theorem scLPlain : FnScope nmLPlain ["_law_op", "_law_one", "_law_two"] (defScope sLPlain) := ⟨rfl, rfl, rfl, by decide +kernel, rfl, by decide +kernel, by decide +kernel⟩
abbrev nmLPut : List Str := ["_law_row", "_law_at", "_law_value"]
theorem scLPut : FnScope nmLPut ["_law_row", "_law_at", "_law_value"] (defScope sLPut) := ⟨rfl, rfl, rfl, by decide +kernel, rfl, by decide +kernel, by decide +kernel⟩
abbrev nmLOps : List Str := []
theorem scLOps : FnScope nmLOps [] (defScope sLOps) := ⟨rfl, rfl, rfl, by decide +kernel, rfl, by decide +kernel, by decide +kernel⟩
abbrev nmLTableOf : List Str := ["_law_row"]
theorem scLTableOf : FnScope nmLTableOf ["_law_row"] (defScope sLTableOf) := ⟨rfl, rfl, rfl, by decide +kernel, rfl, by decide +kernel, by decide +kernel⟩
abbrev nmLIsServed : List Str := ["_law_row", "_law_kinds_here", "_law_at"]
theorem scLIsServed : FnScope nmLIsServed ["_law_row", "_law_kinds_here"] (defScope sLIsServed) := ⟨rfl, rfl, rfl, by decide +kernel, rfl, by decide +kernel, by decide +kernel⟩
abbrev nmLLoop : List Str := ["_law_sieve_here", "_law_place"]
theorem scLLoop : FnScope nmLLoop ["_law_sieve_here", "_law_place"] (defScope sLLoop) := ⟨rfl, rfl, rfl, by decide +kernel, rfl, by decide +kernel, by decide +kernel⟩
abbrev nmLAgains : List Str := ["_law_sieve_here", "_law_place"]
theorem scLAgains : FnScope nmLAgains ["_law_sieve_here"] (defScope sLAgains) := ⟨rfl, rfl, rfl, by decide +kernel, rfl, by decide +kernel, by decide +kernel⟩
abbrev nmLIsCrossed : List Str := ["_law_sieve_here", "_law_place", "_law_own", "_law_other", "_law_far", "_law_both", "_law_at"]
theorem scLIsCrossed : FnScope nmLIsCrossed ["_law_sieve_here", "_law_place"] (defScope sLIsCrossed) := ⟨rfl, rfl, rfl, by decide +kernel, rfl, by decide +kernel, by decide +kernel⟩
abbrev nmLFlaw : List Str := ["_law_sieve_here", "_law_place", "_law_row", "_law_far", "_law_at"]
theorem scLFlaw : FnScope nmLFlaw ["_law_sieve_here", "_law_place"] (defScope sLFlaw) := ⟨rfl, rfl, rfl, by decide +kernel, rfl, by decide +kernel, by decide +kernel⟩
abbrev nmLFlaws : List Str := ["_law_sieve_here", "_law_found_here", "_law_place", "_law_reason"]
theorem scLFlaws : FnScope nmLFlaws ["_law_sieve_here"] (defScope sLFlaws) := ⟨rfl, rfl, rfl, by decide +kernel, rfl, by decide +kernel, by decide +kernel⟩
abbrev nmLBound : List Str := ["_law_sieve_here", "_law_found_here", "_law_place", "_law_often", "_law_other"]
theorem scLBound : FnScope nmLBound ["_law_sieve_here"] (defScope sLBound) := ⟨rfl, rfl, rfl, by decide +kernel, rfl, by decide +kernel, by decide +kernel⟩
abbrev nmLHolds : List Str := ["_law_relation", "_law_one", "_law_two"]
theorem scLHolds : FnScope nmLHolds ["_law_relation", "_law_one", "_law_two"] (defScope sLHolds) := ⟨rfl, rfl, rfl, by decide +kernel, rfl, by decide +kernel, by decide +kernel⟩
abbrev nmLFault : List Str := ["_law_row", "_law_run", "_law_at", "_law_each", "_law_word", "_law_many"]
theorem scLFault : FnScope nmLFault ["_law_row", "_law_run"] (defScope sLFault) := ⟨rfl, rfl, rfl, by decide +kernel, rfl, by decide +kernel, by decide +kernel⟩
abbrev nmLFound : List Str := ["_law_row", "_law_run", "_law_name", "_law_words_here", "_law_at", "_law_rows", "_law_word", "_law_k", "_law_bit"]
theorem scLFound : FnScope nmLFound ["_law_row", "_law_run"] (defScope sLFound) := ⟨rfl, rfl, rfl, by decide +kernel, rfl, by decide +kernel, by decide +kernel⟩
abbrev nmLTablesBehind : List Str := ["_law_row", "_law_run", "_law_at", "_law_word", "_law_sort", "_law_may", "_law_rows"]
theorem scLTablesBehind : FnScope nmLTablesBehind ["_law_row", "_law_run"] (defScope sLTablesBehind) := ⟨rfl, rfl, rfl, by decide +kernel, rfl, by decide +kernel, by decide +kernel⟩
abbrev nmLGoing : List Str := ["_law_row", "_law_run", "_law_place", "_law_counters", "_law_other"]
theorem scLGoing : FnScope nmLGoing ["_law_row", "_law_run"] (defScope sLGoing) := ⟨rfl, rfl, rfl, by decide +kernel, rfl, by decide +kernel, by decide +kernel⟩
abbrev nmLStep : List Str := ["_law_sieve_here", "_law_run", "_law_row", "_law_kind", "_law_place", "_law_counters", "_law_words_here", "_law_found_here", "_law_at"]
theorem scLStep : FnScope nmLStep ["_law_sieve_here", "_law_run"] (defScope sLStep) := ⟨rfl, rfl, rfl, by decide +kernel, rfl, by decide +kernel, by decide +kernel⟩
abbrev nmLBegun : List Str := ["_law_packet", "_law_tables", "_law_clock", "_law_writable"]
theorem scLBegun : FnScope nmLBegun ["_law_packet", "_law_tables", "_law_clock", "_law_writable"] (defScope sLBegun) := ⟨rfl, rfl, rfl, by decide +kernel, rfl, by decide +kernel, by decide +kernel⟩
abbrev nmLWords : List Str := ["_law_well_here", "_law_many", "_law_far", "_law_found_here", "_law_turn", "_law_near", "_law_some"]
theorem scLWords : FnScope nmLWords ["_law_well_here", "_law_many", "_law_far"] (defScope sLWords) := ⟨rfl, rfl, rfl, by decide +kernel, rfl, by decide +kernel, by decide +kernel⟩
abbrev nmLBytes : List Str := ["_law_well_here", "_law_many", "_law_found_here", "_law_turn"]
theorem scLBytes : FnScope nmLBytes ["_law_well_here", "_law_many"] (defScope sLBytes) := ⟨rfl, rfl, rfl, by decide +kernel, rfl, by decide +kernel, by decide +kernel⟩
abbrev nmLCells : List Str := ["_law_well_here", "_law_kind", "_law_found_here", "_law_ahead", "_law_turn"]
theorem scLCells : FnScope nmLCells ["_law_well_here", "_law_kind"] (defScope sLCells) := ⟨rfl, rfl, rfl, by decide +kernel, rfl, by decide +kernel, by decide +kernel⟩
abbrev nmLKinds : List Str := ["_law_well_here", "_law_found_here", "_law_turn", "_law_sort", "_law_most"]
theorem scLKinds : FnScope nmLKinds ["_law_well_here"] (defScope sLKinds) := ⟨rfl, rfl, rfl, by decide +kernel, rfl, by decide +kernel, by decide +kernel⟩
abbrev nmLGrant : List Str := ["_law_well_here", "_law_least", "_law_most"]
theorem scLGrant : FnScope nmLGrant ["_law_well_here"] (defScope sLGrant) := ⟨rfl, rfl, rfl, by decide +kernel, rfl, by decide +kernel, by decide +kernel⟩
abbrev nmLFitting : List Str := ["_law_well_here", "_law_grant_here", "_law_more", "_law_packet", "_law_rows", "_law_kind"]
theorem scLFitting : FnScope nmLFitting ["_law_well_here", "_law_grant_here"] (defScope sLFitting) := ⟨rfl, rfl, rfl, by decide +kernel, rfl, by decide +kernel, by decide +kernel⟩
abbrev nmLGuarded : List Str := ["_law_well_here", "_law_at", "_law_grant_here", "_law_many", "_law_size", "_law_s", "_law_first", "_law_a", "_law_b", "_law_behind"]
theorem scLGuarded : FnScope nmLGuarded ["_law_well_here", "_law_at", "_law_grant_here"] (defScope sLGuarded) := ⟨rfl, rfl, rfl, by decide +kernel, rfl, by decide +kernel, by decide +kernel⟩
abbrev nmLMasked : List Str := ["_law_well_here", "_law_at", "_law_mask", "_law_size", "_law_s", "_law_a", "_law_b", "_law_behind"]
theorem scLMasked : FnScope nmLMasked ["_law_well_here", "_law_at"] (defScope sLMasked) := ⟨rfl, rfl, rfl, by decide +kernel, rfl, by decide +kernel, by decide +kernel⟩
abbrev nmLBelow : List Str := ["_law_well_here", "_law_at", "_law_a", "_law_b"]
theorem scLBelow : FnScope nmLBelow ["_law_well_here", "_law_at"] (defScope sLBelow) := ⟨rfl, rfl, rfl, by decide +kernel, rfl, by decide +kernel, by decide +kernel⟩
abbrev nmLOnCells : List Str := ["_law_well_here", "_law_at", "_law_t", "_law_kind", "_law_b", "_law_mask", "_law_rows", "_law_row"]
theorem scLOnCells : FnScope nmLOnCells ["_law_well_here", "_law_at", "_law_t", "_law_kind"] (defScope sLOnCells) := ⟨rfl, rfl, rfl, by decide +kernel, rfl, by decide +kernel, by decide +kernel⟩
abbrev nmLOnPairs : List Str := ["_law_well_here", "_law_at", "_law_t", "_law_kind", "_law_b", "_law_q", "_law_word", "_law_row"]
theorem scLOnPairs : FnScope nmLOnPairs ["_law_well_here", "_law_at", "_law_t", "_law_kind"] (defScope sLOnPairs) := ⟨rfl, rfl, rfl, by decide +kernel, rfl, by decide +kernel, by decide +kernel⟩
abbrev nmLSomeRows : List Str := ["_law_well_here", "_law_at", "_law_a", "_law_b", "_law_word", "_law_op", "_law_some", "_law_relation"]
theorem scLSomeRows : FnScope nmLSomeRows ["_law_well_here", "_law_at"] (defScope sLSomeRows) := ⟨rfl, rfl, rfl, by decide +kernel, rfl, by decide +kernel, by decide +kernel⟩
abbrev nmLPiece : List Str := ["_law_well_here", "_law_grant_here", "_law_at", "_law_counters", "_law_way", "_law_kinds_here", "_law_t", "_law_kind", "_law_rows", "_law_turn"]
theorem scLPiece : FnScope nmLPiece ["_law_well_here", "_law_grant_here", "_law_at", "_law_counters"] (defScope sLPiece) := ⟨rfl, rfl, rfl, by decide +kernel, rfl, by decide +kernel, by decide +kernel⟩
abbrev nmLSieve : List Str := ["_law_well_here", "_law_grant_here", "_law_rows", "_law_turn"]
theorem scLSieve : FnScope nmLSieve ["_law_well_here", "_law_grant_here"] (defScope sLSieve) := ⟨rfl, rfl, rfl, by decide +kernel, rfl, by decide +kernel, by decide +kernel⟩
abbrev nmLPutIn : List Str := ["_law_well_here", "_law_sieve_here", "_law_at", "_law_far", "_law_near", "_law_some"]
theorem scLPutIn : FnScope nmLPutIn ["_law_well_here", "_law_sieve_here"] (defScope sLPutIn) := ⟨rfl, rfl, rfl, by decide +kernel, rfl, by decide +kernel, by decide +kernel⟩
abbrev nmLRight : List Str := ["_law_well_here", "_law_grant_here", "_law_sieve_here", "_law_turn", "_law_due", "_law_bound_here", "_law_run", "_law_step_here"]
theorem scLRight : FnScope nmLRight ["_law_well_here"] (defScope sLRight) := ⟨rfl, rfl, rfl, by decide +kernel, rfl, by decide +kernel, by decide +kernel⟩
abbrev nmLaw : List Str := ["_law_script", "_law_turn"]
theorem scLaw : FnScope nmLaw ["_law_script"] (defScope sLaw) := ⟨rfl, rfl, rfl, by decide +kernel, rfl, by decide +kernel, by decide +kernel⟩
structure Md (w : World) (K : PySem.W.Frag) (mg : Str → Option Value) : Prop where
  wo : Wo w K mg
  fIsWhole : ∃ f fd, FunD K "is_whole" "is_whole" (defArgs sIsWhole) (defBody sIsWhole) (defScope sIsWhole) [] [] f fd ∧ mg "is_whole" = some (.ref f)
  fIsBetween : ∃ f fd, FunD K "is_between" "is_between" (defArgs sIsBetween) (defBody sIsBetween) (defScope sIsBetween) [] [] f fd ∧ mg "is_between" = some (.ref f)
  fFieldsBy : ∃ f fd, FunD K "fields_by" "fields_by" (defArgs sFieldsBy) (defBody sFieldsBy) (defScope sFieldsBy) [] [] f fd ∧ mg "fields_by" = some (.ref f)
  fIsField : ∃ f fd, FunD K "is_field" "is_field" (defArgs sIsField) (defBody sIsField) (defScope sIsField) [] [] f fd ∧ mg "is_field" = some (.ref f)
  fIsRowBy : ∃ f fd, FunD K "is_row_by" "is_row_by" (defArgs sIsRowBy) (defBody sIsRowBy) (defScope sIsRowBy) [] [] f fd ∧ mg "is_row_by" = some (.ref f)
  fWrongInSieve : ∃ f fd, FunD K "wrong_in_sieve" "wrong_in_sieve" (defArgs sWrongInSieve) (defBody sWrongInSieve) (defScope sWrongInSieve) [] [] f fd ∧ mg "wrong_in_sieve" = some (.ref f)
  fCheckSieve : ∃ f fd, FunD K "check_sieve" "check_sieve" (defArgs sCheckSieve) (defBody sCheckSieve) (defScope sCheckSieve) [] [] f fd ∧ mg "check_sieve" = some (.ref f)
  fAimOf : ∃ f fd, FunD K "aim_of" "aim_of" (defArgs sAimOf) (defBody sAimOf) (defScope sAimOf) [] [] f fd ∧ mg "aim_of" = some (.ref f)
  fLoopsBy : ∃ f fd, FunD K "loops_by" "loops_by" (defArgs sLoopsBy) (defBody sLoopsBy) (defScope sLoopsBy) [] [] f fd ∧ mg "loops_by" = some (.ref f)
  fDoCross : ∃ f fd, FunD K "do_cross" "do_cross" (defArgs sDoCross) (defBody sDoCross) (defScope sDoCross) [] [] f fd ∧ mg "do_cross" = some (.ref f)
  fBackFlaw : ∃ f fd, FunD K "back_flaw" "back_flaw" (defArgs sBackFlaw) (defBody sBackFlaw) (defScope sBackFlaw) [] [] f fd ∧ mg "back_flaw" = some (.ref f)
  fFlawOf : ∃ f fd, FunD K "flaw_of" "flaw_of" (defArgs sFlawOf) (defBody sFlawOf) (defScope sFlawOf) [] [] f fd ∧ mg "flaw_of" = some (.ref f)
  fFlawsBy : ∃ f fd, FunD K "flaws_by" "flaws_by" (defArgs sFlawsBy) (defBody sFlawsBy) (defScope sFlawsBy) [] [] f fd ∧ mg "flaws_by" = some (.ref f)
  fTimesOf : ∃ f fd, FunD K "times_of" "times_of" (defArgs sTimesOf) (defBody sTimesOf) (defScope sTimesOf) [] [] f fd ∧ mg "times_of" = some (.ref f)
  fBoundBy : ∃ f fd, FunD K "bound_by" "bound_by" (defArgs sBoundBy) (defBody sBoundBy) (defScope sBoundBy) [] [] f fd ∧ mg "bound_by" = some (.ref f)
  fFlaws : ∃ f fd, FunD K "flaws" "flaws" (defArgs sFlaws) (defBody sFlaws) (defScope sFlaws) [] [] f fd ∧ mg "flaws" = some (.ref f)
  fStepsBound : ∃ f fd, FunD K "steps_bound" "steps_bound" (defArgs sStepsBound) (defBody sStepsBound) (defScope sStepsBound) [] [] f fd ∧ mg "steps_bound" = some (.ref f)
  fLWell : ∃ f fd, FunD K "_law_well" "_law_well" (defArgs sLWell) (defBody sLWell) (defScope sLWell) [] [] f fd ∧ mg "_law_well" = some (.ref f)
  fLDraw : ∃ f fd, FunD K "_law_draw" "_law_draw" (defArgs sLDraw) (defBody sLDraw) (defScope sLDraw) [] [] f fd ∧ mg "_law_draw" = some (.ref f)
  fLPick : ∃ f fd, FunD K "_law_pick" "_law_pick" (defArgs sLPick) (defBody sLPick) (defScope sLPick) [] [] f fd ∧ mg "_law_pick" = some (.ref f)
  fLPlain : ∃ f fd, FunD K "_law_plain" "_law_plain" (defArgs sLPlain) (defBody sLPlain) (defScope sLPlain) [] [] f fd ∧ mg "_law_plain" = some (.ref f)
  fLPut : ∃ f fd, FunD K "_law_put" "_law_put" (defArgs sLPut) (defBody sLPut) (defScope sLPut) [] [] f fd ∧ mg "_law_put" = some (.ref f)
  fLOps : ∃ f fd, FunD K "_law_ops" "_law_ops" (defArgs sLOps) (defBody sLOps) (defScope sLOps) [] [] f fd ∧ mg "_law_ops" = some (.ref f)
  fLTableOf : ∃ f fd, FunD K "_law_table_of" "_law_table_of" (defArgs sLTableOf) (defBody sLTableOf) (defScope sLTableOf) [] [] f fd ∧ mg "_law_table_of" = some (.ref f)
  fLIsServed : ∃ f fd, FunD K "_law_is_served" "_law_is_served" (defArgs sLIsServed) (defBody sLIsServed) (defScope sLIsServed) [] [] f fd ∧ mg "_law_is_served" = some (.ref f)
  fLLoop : ∃ f fd, FunD K "_law_loop" "_law_loop" (defArgs sLLoop) (defBody sLLoop) (defScope sLLoop) [] [] f fd ∧ mg "_law_loop" = some (.ref f)
  fLAgains : ∃ f fd, FunD K "_law_agains" "_law_agains" (defArgs sLAgains) (defBody sLAgains) (defScope sLAgains) [] [] f fd ∧ mg "_law_agains" = some (.ref f)
  fLIsCrossed : ∃ f fd, FunD K "_law_is_crossed" "_law_is_crossed" (defArgs sLIsCrossed) (defBody sLIsCrossed) (defScope sLIsCrossed) [] [] f fd ∧ mg "_law_is_crossed" = some (.ref f)
  fLFlaw : ∃ f fd, FunD K "_law_flaw" "_law_flaw" (defArgs sLFlaw) (defBody sLFlaw) (defScope sLFlaw) [] [] f fd ∧ mg "_law_flaw" = some (.ref f)
  fLFlaws : ∃ f fd, FunD K "_law_flaws" "_law_flaws" (defArgs sLFlaws) (defBody sLFlaws) (defScope sLFlaws) [] [] f fd ∧ mg "_law_flaws" = some (.ref f)
  fLBound : ∃ f fd, FunD K "_law_bound" "_law_bound" (defArgs sLBound) (defBody sLBound) (defScope sLBound) [] [] f fd ∧ mg "_law_bound" = some (.ref f)
  fLHolds : ∃ f fd, FunD K "_law_holds" "_law_holds" (defArgs sLHolds) (defBody sLHolds) (defScope sLHolds) [] [] f fd ∧ mg "_law_holds" = some (.ref f)
  fLFault : ∃ f fd, FunD K "_law_fault" "_law_fault" (defArgs sLFault) (defBody sLFault) (defScope sLFault) [] [] f fd ∧ mg "_law_fault" = some (.ref f)
  fLFound : ∃ f fd, FunD K "_law_found" "_law_found" (defArgs sLFound) (defBody sLFound) (defScope sLFound) [] [] f fd ∧ mg "_law_found" = some (.ref f)
  fLTablesBehind : ∃ f fd, FunD K "_law_tables_behind" "_law_tables_behind" (defArgs sLTablesBehind) (defBody sLTablesBehind) (defScope sLTablesBehind) [] [] f fd ∧ mg "_law_tables_behind" = some (.ref f)
  fLGoing : ∃ f fd, FunD K "_law_going" "_law_going" (defArgs sLGoing) (defBody sLGoing) (defScope sLGoing) [] [] f fd ∧ mg "_law_going" = some (.ref f)
  fLStep : ∃ f fd, FunD K "_law_step" "_law_step" (defArgs sLStep) (defBody sLStep) (defScope sLStep) [] [] f fd ∧ mg "_law_step" = some (.ref f)
  fLBegun : ∃ f fd, FunD K "_law_begun" "_law_begun" (defArgs sLBegun) (defBody sLBegun) (defScope sLBegun) [] [] f fd ∧ mg "_law_begun" = some (.ref f)
  fLWords : ∃ f fd, FunD K "_law_words" "_law_words" (defArgs sLWords) (defBody sLWords) (defScope sLWords) [] [] f fd ∧ mg "_law_words" = some (.ref f)
  fLBytes : ∃ f fd, FunD K "_law_bytes" "_law_bytes" (defArgs sLBytes) (defBody sLBytes) (defScope sLBytes) [] [] f fd ∧ mg "_law_bytes" = some (.ref f)
  fLCells : ∃ f fd, FunD K "_law_cells" "_law_cells" (defArgs sLCells) (defBody sLCells) (defScope sLCells) [] [] f fd ∧ mg "_law_cells" = some (.ref f)
  fLKinds : ∃ f fd, FunD K "_law_kinds" "_law_kinds" (defArgs sLKinds) (defBody sLKinds) (defScope sLKinds) [] [] f fd ∧ mg "_law_kinds" = some (.ref f)
  fLGrant : ∃ f fd, FunD K "_law_grant" "_law_grant" (defArgs sLGrant) (defBody sLGrant) (defScope sLGrant) [] [] f fd ∧ mg "_law_grant" = some (.ref f)
  fLFitting : ∃ f fd, FunD K "_law_fitting" "_law_fitting" (defArgs sLFitting) (defBody sLFitting) (defScope sLFitting) [] [] f fd ∧ mg "_law_fitting" = some (.ref f)
  fLGuarded : ∃ f fd, FunD K "_law_guarded" "_law_guarded" (defArgs sLGuarded) (defBody sLGuarded) (defScope sLGuarded) [] [] f fd ∧ mg "_law_guarded" = some (.ref f)
  fLMasked : ∃ f fd, FunD K "_law_masked" "_law_masked" (defArgs sLMasked) (defBody sLMasked) (defScope sLMasked) [] [] f fd ∧ mg "_law_masked" = some (.ref f)
  fLBelow : ∃ f fd, FunD K "_law_below" "_law_below" (defArgs sLBelow) (defBody sLBelow) (defScope sLBelow) [] [] f fd ∧ mg "_law_below" = some (.ref f)
  fLOnCells : ∃ f fd, FunD K "_law_on_cells" "_law_on_cells" (defArgs sLOnCells) (defBody sLOnCells) (defScope sLOnCells) [] [] f fd ∧ mg "_law_on_cells" = some (.ref f)
  fLOnPairs : ∃ f fd, FunD K "_law_on_pairs" "_law_on_pairs" (defArgs sLOnPairs) (defBody sLOnPairs) (defScope sLOnPairs) [] [] f fd ∧ mg "_law_on_pairs" = some (.ref f)
  fLSomeRows : ∃ f fd, FunD K "_law_some_rows" "_law_some_rows" (defArgs sLSomeRows) (defBody sLSomeRows) (defScope sLSomeRows) [] [] f fd ∧ mg "_law_some_rows" = some (.ref f)
  fLPiece : ∃ f fd, FunD K "_law_piece" "_law_piece" (defArgs sLPiece) (defBody sLPiece) (defScope sLPiece) [] [] f fd ∧ mg "_law_piece" = some (.ref f)
  fLSieve : ∃ f fd, FunD K "_law_sieve" "_law_sieve" (defArgs sLSieve) (defBody sLSieve) (defScope sLSieve) [] [] f fd ∧ mg "_law_sieve" = some (.ref f)
  fLPutIn : ∃ f fd, FunD K "_law_put_in" "_law_put_in" (defArgs sLPutIn) (defBody sLPutIn) (defScope sLPutIn) [] [] f fd ∧ mg "_law_put_in" = some (.ref f)
  fLRight : ∃ f fd, FunD K "_law_right" "_law_right" (defArgs sLRight) (defBody sLRight) (defScope sLRight) [] [] f fd ∧ mg "_law_right" = some (.ref f)
  fLaw : ∃ f fd, FunD K "law" "law" (defArgs sLaw) (defBody sLaw) (defScope sLaw) [] [] f fd ∧ mg "law" = some (.ref f)
section
variable {P : Program} {w : World} {K : PySem.W.Frag} {mg : Str → Option Value} {base : Heap} {k : Nat} {sp : Sc}
abbrev CIsWhole (P : Program) (w : World) (K : PySem.W.Frag) (mg : Str → Option Value) (base : Heap) (k : Nat) (sp : Sc) : Prop := CalD P w K mg base k "is_whole" ["value"] sp
abbrev xIsWhole (P : Program) (w : World) (K : PySem.W.Frag) (mg : Str → Option Value) (base : Heap) (f : Addr) (cdv : Value) (A : Around) (outer : List Env) (s : Shared) (H : Hp) (E : XK) : Unit → Cx := bodyX P w K mg base nmIsWhole "is_whole" (defScope sIsWhole) f cdv A outer s H E
theorem goIsWhole (M : Md w K mg) (len : ∀ ds k0, sp ds k0 → ds.length = 1) (body : ∀ (f : Addr) (cdv : Value) (A : Around) (outer : List Env) (s : Shared) (H : Hp) (E : XK), Fm P w K mg base nmIsWhole (defScope sIsWhole) k (xIsWhole P w K mg base f cdv A outer s H E) → nmIsWhole.Nodup → ∀ ds k0, sp ds k0 →
      XSs K (xIsWhole P w K mg base f cdv A outer s H E) (defBody sIsWhole) ⟨fun _ => k0 .none, k0, fun _ => False, fun _ => False⟩ (entry nmIsWhole ds)) : CIsWhole P w K mg base (k + 1) sp := by
  obtain ⟨f, fd, F, hm⟩ := M.fIsWhole
  exact CalD.of F hm scIsWhole (fun _ _ _ _ _ _ us hl => match us, hl with | [_], _ => rfl) len (fun cdv A outer s H E fm => body f cdv A outer s H E fm scIsWhole.nd)
abbrev CIsBetween (P : Program) (w : World) (K : PySem.W.Frag) (mg : Str → Option Value) (base : Heap) (k : Nat) (sp : Sc) : Prop := CalD P w K mg base k "is_between" ["value", "low", "high"] sp
abbrev xIsBetween (P : Program) (w : World) (K : PySem.W.Frag) (mg : Str → Option Value) (base : Heap) (f : Addr) (cdv : Value) (A : Around) (outer : List Env) (s : Shared) (H : Hp) (E : XK) : Unit → Cx := bodyX P w K mg base nmIsBetween "is_between" (defScope sIsBetween) f cdv A outer s H E
theorem goIsBetween (M : Md w K mg) (len : ∀ ds k0, sp ds k0 → ds.length = 3) (body : ∀ (f : Addr) (cdv : Value) (A : Around) (outer : List Env) (s : Shared) (H : Hp) (E : XK), Fm P w K mg base nmIsBetween (defScope sIsBetween) k (xIsBetween P w K mg base f cdv A outer s H E) → nmIsBetween.Nodup → ∀ ds k0, sp ds k0 →
      XSs K (xIsBetween P w K mg base f cdv A outer s H E) (defBody sIsBetween) ⟨fun _ => k0 .none, k0, fun _ => False, fun _ => False⟩ (entry nmIsBetween ds)) : CIsBetween P w K mg base (k + 1) sp := by
  obtain ⟨f, fd, F, hm⟩ := M.fIsBetween
  exact CalD.of F hm scIsBetween (fun _ _ _ _ _ _ us hl => match us, hl with | [_, _, _], _ => rfl) len (fun cdv A outer s H E fm => body f cdv A outer s H E fm scIsBetween.nd)
abbrev CFieldsBy (P : Program) (w : World) (K : PySem.W.Frag) (mg : Str → Option Value) (base : Heap) (k : Nat) (sp : Sc) : Prop := CalD P w K mg base k "fields_by" ["name"] sp
abbrev xFieldsBy (P : Program) (w : World) (K : PySem.W.Frag) (mg : Str → Option Value) (base : Heap) (f : Addr) (cdv : Value) (A : Around) (outer : List Env) (s : Shared) (H : Hp) (E : XK) : Unit → Cx := bodyX P w K mg base nmFieldsBy "fields_by" (defScope sFieldsBy) f cdv A outer s H E
theorem goFieldsBy (M : Md w K mg) (len : ∀ ds k0, sp ds k0 → ds.length = 1) (body : ∀ (f : Addr) (cdv : Value) (A : Around) (outer : List Env) (s : Shared) (H : Hp) (E : XK), Fm P w K mg base nmFieldsBy (defScope sFieldsBy) k (xFieldsBy P w K mg base f cdv A outer s H E) → nmFieldsBy.Nodup → ∀ ds k0, sp ds k0 →
      XSs K (xFieldsBy P w K mg base f cdv A outer s H E) (defBody sFieldsBy) ⟨fun _ => k0 .none, k0, fun _ => False, fun _ => False⟩ (entry nmFieldsBy ds)) : CFieldsBy P w K mg base (k + 1) sp := by
  obtain ⟨f, fd, F, hm⟩ := M.fFieldsBy
  exact CalD.of F hm scFieldsBy (fun _ _ _ _ _ _ us hl => match us, hl with | [_], _ => rfl) len (fun cdv A outer s H E fm => body f cdv A outer s H E fm scFieldsBy.nd)
abbrev CIsField (P : Program) (w : World) (K : PySem.W.Frag) (mg : Str → Option Value) (base : Heap) (k : Nat) (sp : Sc) : Prop := CalD P w K mg base k "is_field" ["field", "value"] sp
abbrev xIsField (P : Program) (w : World) (K : PySem.W.Frag) (mg : Str → Option Value) (base : Heap) (f : Addr) (cdv : Value) (A : Around) (outer : List Env) (s : Shared) (H : Hp) (E : XK) : Unit → Cx := bodyX P w K mg base nmIsField "is_field" (defScope sIsField) f cdv A outer s H E
theorem goIsField (M : Md w K mg) (len : ∀ ds k0, sp ds k0 → ds.length = 2) (body : ∀ (f : Addr) (cdv : Value) (A : Around) (outer : List Env) (s : Shared) (H : Hp) (E : XK), Fm P w K mg base nmIsField (defScope sIsField) k (xIsField P w K mg base f cdv A outer s H E) → nmIsField.Nodup → ∀ ds k0, sp ds k0 →
      XSs K (xIsField P w K mg base f cdv A outer s H E) (defBody sIsField) ⟨fun _ => k0 .none, k0, fun _ => False, fun _ => False⟩ (entry nmIsField ds)) : CIsField P w K mg base (k + 1) sp := by
  obtain ⟨f, fd, F, hm⟩ := M.fIsField
  exact CalD.of F hm scIsField (fun _ _ _ _ _ _ us hl => match us, hl with | [_, _], _ => rfl) len (fun cdv A outer s H E fm => body f cdv A outer s H E fm scIsField.nd)
abbrev CIsRowBy (P : Program) (w : World) (K : PySem.W.Frag) (mg : Str → Option Value) (base : Heap) (k : Nat) (sp : Sc) : Prop := CalD P w K mg base k "is_row_by" ["value"] sp
abbrev xIsRowBy (P : Program) (w : World) (K : PySem.W.Frag) (mg : Str → Option Value) (base : Heap) (f : Addr) (cdv : Value) (A : Around) (outer : List Env) (s : Shared) (H : Hp) (E : XK) : Unit → Cx := bodyX P w K mg base nmIsRowBy "is_row_by" (defScope sIsRowBy) f cdv A outer s H E
theorem goIsRowBy (M : Md w K mg) (len : ∀ ds k0, sp ds k0 → ds.length = 1) (body : ∀ (f : Addr) (cdv : Value) (A : Around) (outer : List Env) (s : Shared) (H : Hp) (E : XK), Fm P w K mg base nmIsRowBy (defScope sIsRowBy) k (xIsRowBy P w K mg base f cdv A outer s H E) → nmIsRowBy.Nodup → ∀ ds k0, sp ds k0 →
      XSs K (xIsRowBy P w K mg base f cdv A outer s H E) (defBody sIsRowBy) ⟨fun _ => k0 .none, k0, fun _ => False, fun _ => False⟩ (entry nmIsRowBy ds)) : CIsRowBy P w K mg base (k + 1) sp := by
  obtain ⟨f, fd, F, hm⟩ := M.fIsRowBy
  exact CalD.of F hm scIsRowBy (fun _ _ _ _ _ _ us hl => match us, hl with | [_], _ => rfl) len (fun cdv A outer s H E fm => body f cdv A outer s H E fm scIsRowBy.nd)
abbrev CWrongInSieve (P : Program) (w : World) (K : PySem.W.Frag) (mg : Str → Option Value) (base : Heap) (k : Nat) (sp : Sc) : Prop := CalD P w K mg base k "wrong_in_sieve" ["value"] sp
abbrev xWrongInSieve (P : Program) (w : World) (K : PySem.W.Frag) (mg : Str → Option Value) (base : Heap) (f : Addr) (cdv : Value) (A : Around) (outer : List Env) (s : Shared) (H : Hp) (E : XK) : Unit → Cx := bodyX P w K mg base nmWrongInSieve "wrong_in_sieve" (defScope sWrongInSieve) f cdv A outer s H E
theorem goWrongInSieve (M : Md w K mg) (len : ∀ ds k0, sp ds k0 → ds.length = 1) (body : ∀ (f : Addr) (cdv : Value) (A : Around) (outer : List Env) (s : Shared) (H : Hp) (E : XK), Fm P w K mg base nmWrongInSieve (defScope sWrongInSieve) k (xWrongInSieve P w K mg base f cdv A outer s H E) → nmWrongInSieve.Nodup → ∀ ds k0, sp ds k0 →
      XSs K (xWrongInSieve P w K mg base f cdv A outer s H E) (defBody sWrongInSieve) ⟨fun _ => k0 .none, k0, fun _ => False, fun _ => False⟩ (entry nmWrongInSieve ds)) : CWrongInSieve P w K mg base (k + 1) sp := by
  obtain ⟨f, fd, F, hm⟩ := M.fWrongInSieve
  exact CalD.of F hm scWrongInSieve (fun _ _ _ _ _ _ us hl => match us, hl with | [_], _ => rfl) len (fun cdv A outer s H E fm => body f cdv A outer s H E fm scWrongInSieve.nd)
abbrev CCheckSieve (P : Program) (w : World) (K : PySem.W.Frag) (mg : Str → Option Value) (base : Heap) (k : Nat) (sp : Sc) : Prop := CalD P w K mg base k "check_sieve" ["value"] sp
abbrev xCheckSieve (P : Program) (w : World) (K : PySem.W.Frag) (mg : Str → Option Value) (base : Heap) (f : Addr) (cdv : Value) (A : Around) (outer : List Env) (s : Shared) (H : Hp) (E : XK) : Unit → Cx := bodyX P w K mg base nmCheckSieve "check_sieve" (defScope sCheckSieve) f cdv A outer s H E
theorem goCheckSieve (M : Md w K mg) (len : ∀ ds k0, sp ds k0 → ds.length = 1) (body : ∀ (f : Addr) (cdv : Value) (A : Around) (outer : List Env) (s : Shared) (H : Hp) (E : XK), Fm P w K mg base nmCheckSieve (defScope sCheckSieve) k (xCheckSieve P w K mg base f cdv A outer s H E) → nmCheckSieve.Nodup → ∀ ds k0, sp ds k0 →
      XSs K (xCheckSieve P w K mg base f cdv A outer s H E) (defBody sCheckSieve) ⟨fun _ => k0 .none, k0, fun _ => False, fun _ => False⟩ (entry nmCheckSieve ds)) : CCheckSieve P w K mg base (k + 1) sp := by
  obtain ⟨f, fd, F, hm⟩ := M.fCheckSieve
  exact CalD.of F hm scCheckSieve (fun _ _ _ _ _ _ us hl => match us, hl with | [_], _ => rfl) len (fun cdv A outer s H E fm => body f cdv A outer s H E fm scCheckSieve.nd)
abbrev CAimOf (P : Program) (w : World) (K : PySem.W.Frag) (mg : Str → Option Value) (base : Heap) (k : Nat) (sp : Sc) : Prop := CalD P w K mg base k "aim_of" ["row"] sp
abbrev xAimOf (P : Program) (w : World) (K : PySem.W.Frag) (mg : Str → Option Value) (base : Heap) (f : Addr) (cdv : Value) (A : Around) (outer : List Env) (s : Shared) (H : Hp) (E : XK) : Unit → Cx := bodyX P w K mg base nmAimOf "aim_of" (defScope sAimOf) f cdv A outer s H E
theorem goAimOf (M : Md w K mg) (len : ∀ ds k0, sp ds k0 → ds.length = 1) (body : ∀ (f : Addr) (cdv : Value) (A : Around) (outer : List Env) (s : Shared) (H : Hp) (E : XK), Fm P w K mg base nmAimOf (defScope sAimOf) k (xAimOf P w K mg base f cdv A outer s H E) → nmAimOf.Nodup → ∀ ds k0, sp ds k0 →
      XSs K (xAimOf P w K mg base f cdv A outer s H E) (defBody sAimOf) ⟨fun _ => k0 .none, k0, fun _ => False, fun _ => False⟩ (entry nmAimOf ds)) : CAimOf P w K mg base (k + 1) sp := by
  obtain ⟨f, fd, F, hm⟩ := M.fAimOf
  exact CalD.of F hm scAimOf (fun _ _ _ _ _ _ us hl => match us, hl with | [_], _ => rfl) len (fun cdv A outer s H E fm => body f cdv A outer s H E fm scAimOf.nd)
abbrev CLoopsBy (P : Program) (w : World) (K : PySem.W.Frag) (mg : Str → Option Value) (base : Heap) (k : Nat) (sp : Sc) : Prop := CalD P w K mg base k "loops_by" ["sieve"] sp
abbrev xLoopsBy (P : Program) (w : World) (K : PySem.W.Frag) (mg : Str → Option Value) (base : Heap) (f : Addr) (cdv : Value) (A : Around) (outer : List Env) (s : Shared) (H : Hp) (E : XK) : Unit → Cx := bodyX P w K mg base nmLoopsBy "loops_by" (defScope sLoopsBy) f cdv A outer s H E
theorem goLoopsBy (M : Md w K mg) (len : ∀ ds k0, sp ds k0 → ds.length = 1) (body : ∀ (f : Addr) (cdv : Value) (A : Around) (outer : List Env) (s : Shared) (H : Hp) (E : XK), Fm P w K mg base nmLoopsBy (defScope sLoopsBy) k (xLoopsBy P w K mg base f cdv A outer s H E) → nmLoopsBy.Nodup → ∀ ds k0, sp ds k0 →
      XSs K (xLoopsBy P w K mg base f cdv A outer s H E) (defBody sLoopsBy) ⟨fun _ => k0 .none, k0, fun _ => False, fun _ => False⟩ (entry nmLoopsBy ds)) : CLoopsBy P w K mg base (k + 1) sp := by
  obtain ⟨f, fd, F, hm⟩ := M.fLoopsBy
  exact CalD.of F hm scLoopsBy (fun _ _ _ _ _ _ us hl => match us, hl with | [_], _ => rfl) len (fun cdv A outer s H E fm => body f cdv A outer s H E fm scLoopsBy.nd)
abbrev CDoCross (P : Program) (w : World) (K : PySem.W.Frag) (mg : Str → Option Value) (base : Heap) (k : Nat) (sp : Sc) : Prop := CalD P w K mg base k "do_cross" ["one", "two"] sp
abbrev xDoCross (P : Program) (w : World) (K : PySem.W.Frag) (mg : Str → Option Value) (base : Heap) (f : Addr) (cdv : Value) (A : Around) (outer : List Env) (s : Shared) (H : Hp) (E : XK) : Unit → Cx := bodyX P w K mg base nmDoCross "do_cross" (defScope sDoCross) f cdv A outer s H E
theorem goDoCross (M : Md w K mg) (len : ∀ ds k0, sp ds k0 → ds.length = 2) (body : ∀ (f : Addr) (cdv : Value) (A : Around) (outer : List Env) (s : Shared) (H : Hp) (E : XK), Fm P w K mg base nmDoCross (defScope sDoCross) k (xDoCross P w K mg base f cdv A outer s H E) → nmDoCross.Nodup → ∀ ds k0, sp ds k0 →
      XSs K (xDoCross P w K mg base f cdv A outer s H E) (defBody sDoCross) ⟨fun _ => k0 .none, k0, fun _ => False, fun _ => False⟩ (entry nmDoCross ds)) : CDoCross P w K mg base (k + 1) sp := by
  obtain ⟨f, fd, F, hm⟩ := M.fDoCross
  exact CalD.of F hm scDoCross (fun _ _ _ _ _ _ us hl => match us, hl with | [_, _], _ => rfl) len (fun cdv A outer s H E fm => body f cdv A outer s H E fm scDoCross.nd)
abbrev CBackFlaw (P : Program) (w : World) (K : PySem.W.Frag) (mg : Str → Option Value) (base : Heap) (k : Nat) (sp : Sc) : Prop := CalD P w K mg base k "back_flaw" ["sieve", "place"] sp
abbrev xBackFlaw (P : Program) (w : World) (K : PySem.W.Frag) (mg : Str → Option Value) (base : Heap) (f : Addr) (cdv : Value) (A : Around) (outer : List Env) (s : Shared) (H : Hp) (E : XK) : Unit → Cx := bodyX P w K mg base nmBackFlaw "back_flaw" (defScope sBackFlaw) f cdv A outer s H E
theorem goBackFlaw (M : Md w K mg) (len : ∀ ds k0, sp ds k0 → ds.length = 2) (body : ∀ (f : Addr) (cdv : Value) (A : Around) (outer : List Env) (s : Shared) (H : Hp) (E : XK), Fm P w K mg base nmBackFlaw (defScope sBackFlaw) k (xBackFlaw P w K mg base f cdv A outer s H E) → nmBackFlaw.Nodup → ∀ ds k0, sp ds k0 →
      XSs K (xBackFlaw P w K mg base f cdv A outer s H E) (defBody sBackFlaw) ⟨fun _ => k0 .none, k0, fun _ => False, fun _ => False⟩ (entry nmBackFlaw ds)) : CBackFlaw P w K mg base (k + 1) sp := by
  obtain ⟨f, fd, F, hm⟩ := M.fBackFlaw
  exact CalD.of F hm scBackFlaw (fun _ _ _ _ _ _ us hl => match us, hl with | [_, _], _ => rfl) len (fun cdv A outer s H E fm => body f cdv A outer s H E fm scBackFlaw.nd)
abbrev CFlawOf (P : Program) (w : World) (K : PySem.W.Frag) (mg : Str → Option Value) (base : Heap) (k : Nat) (sp : Sc) : Prop := CalD P w K mg base k "flaw_of" ["sieve", "place"] sp
abbrev xFlawOf (P : Program) (w : World) (K : PySem.W.Frag) (mg : Str → Option Value) (base : Heap) (f : Addr) (cdv : Value) (A : Around) (outer : List Env) (s : Shared) (H : Hp) (E : XK) : Unit → Cx := bodyX P w K mg base nmFlawOf "flaw_of" (defScope sFlawOf) f cdv A outer s H E
theorem goFlawOf (M : Md w K mg) (len : ∀ ds k0, sp ds k0 → ds.length = 2) (body : ∀ (f : Addr) (cdv : Value) (A : Around) (outer : List Env) (s : Shared) (H : Hp) (E : XK), Fm P w K mg base nmFlawOf (defScope sFlawOf) k (xFlawOf P w K mg base f cdv A outer s H E) → nmFlawOf.Nodup → ∀ ds k0, sp ds k0 →
      XSs K (xFlawOf P w K mg base f cdv A outer s H E) (defBody sFlawOf) ⟨fun _ => k0 .none, k0, fun _ => False, fun _ => False⟩ (entry nmFlawOf ds)) : CFlawOf P w K mg base (k + 1) sp := by
  obtain ⟨f, fd, F, hm⟩ := M.fFlawOf
  exact CalD.of F hm scFlawOf (fun _ _ _ _ _ _ us hl => match us, hl with | [_, _], _ => rfl) len (fun cdv A outer s H E fm => body f cdv A outer s H E fm scFlawOf.nd)
abbrev CFlawsBy (P : Program) (w : World) (K : PySem.W.Frag) (mg : Str → Option Value) (base : Heap) (k : Nat) (sp : Sc) : Prop := CalD P w K mg base k "flaws_by" ["sieve"] sp
abbrev xFlawsBy (P : Program) (w : World) (K : PySem.W.Frag) (mg : Str → Option Value) (base : Heap) (f : Addr) (cdv : Value) (A : Around) (outer : List Env) (s : Shared) (H : Hp) (E : XK) : Unit → Cx := bodyX P w K mg base nmFlawsBy "flaws_by" (defScope sFlawsBy) f cdv A outer s H E
theorem goFlawsBy (M : Md w K mg) (len : ∀ ds k0, sp ds k0 → ds.length = 1) (body : ∀ (f : Addr) (cdv : Value) (A : Around) (outer : List Env) (s : Shared) (H : Hp) (E : XK), Fm P w K mg base nmFlawsBy (defScope sFlawsBy) k (xFlawsBy P w K mg base f cdv A outer s H E) → nmFlawsBy.Nodup → ∀ ds k0, sp ds k0 →
      XSs K (xFlawsBy P w K mg base f cdv A outer s H E) (defBody sFlawsBy) ⟨fun _ => k0 .none, k0, fun _ => False, fun _ => False⟩ (entry nmFlawsBy ds)) : CFlawsBy P w K mg base (k + 1) sp := by
  obtain ⟨f, fd, F, hm⟩ := M.fFlawsBy
  exact CalD.of F hm scFlawsBy (fun _ _ _ _ _ _ us hl => match us, hl with | [_], _ => rfl) len (fun cdv A outer s H E fm => body f cdv A outer s H E fm scFlawsBy.nd)
abbrev CTimesOf (P : Program) (w : World) (K : PySem.W.Frag) (mg : Str → Option Value) (base : Heap) (k : Nat) (sp : Sc) : Prop := CalD P w K mg base k "times_of" ["loops", "place"] sp
abbrev xTimesOf (P : Program) (w : World) (K : PySem.W.Frag) (mg : Str → Option Value) (base : Heap) (f : Addr) (cdv : Value) (A : Around) (outer : List Env) (s : Shared) (H : Hp) (E : XK) : Unit → Cx := bodyX P w K mg base nmTimesOf "times_of" (defScope sTimesOf) f cdv A outer s H E
theorem goTimesOf (M : Md w K mg) (len : ∀ ds k0, sp ds k0 → ds.length = 2) (body : ∀ (f : Addr) (cdv : Value) (A : Around) (outer : List Env) (s : Shared) (H : Hp) (E : XK), Fm P w K mg base nmTimesOf (defScope sTimesOf) k (xTimesOf P w K mg base f cdv A outer s H E) → nmTimesOf.Nodup → ∀ ds k0, sp ds k0 →
      XSs K (xTimesOf P w K mg base f cdv A outer s H E) (defBody sTimesOf) ⟨fun _ => k0 .none, k0, fun _ => False, fun _ => False⟩ (entry nmTimesOf ds)) : CTimesOf P w K mg base (k + 1) sp := by
  obtain ⟨f, fd, F, hm⟩ := M.fTimesOf
  exact CalD.of F hm scTimesOf (fun _ _ _ _ _ _ us hl => match us, hl with | [_, _], _ => rfl) len (fun cdv A outer s H E fm => body f cdv A outer s H E fm scTimesOf.nd)
abbrev CBoundBy (P : Program) (w : World) (K : PySem.W.Frag) (mg : Str → Option Value) (base : Heap) (k : Nat) (sp : Sc) : Prop := CalD P w K mg base k "bound_by" ["sieve"] sp
abbrev xBoundBy (P : Program) (w : World) (K : PySem.W.Frag) (mg : Str → Option Value) (base : Heap) (f : Addr) (cdv : Value) (A : Around) (outer : List Env) (s : Shared) (H : Hp) (E : XK) : Unit → Cx := bodyX P w K mg base nmBoundBy "bound_by" (defScope sBoundBy) f cdv A outer s H E
theorem goBoundBy (M : Md w K mg) (len : ∀ ds k0, sp ds k0 → ds.length = 1) (body : ∀ (f : Addr) (cdv : Value) (A : Around) (outer : List Env) (s : Shared) (H : Hp) (E : XK), Fm P w K mg base nmBoundBy (defScope sBoundBy) k (xBoundBy P w K mg base f cdv A outer s H E) → nmBoundBy.Nodup → ∀ ds k0, sp ds k0 →
      XSs K (xBoundBy P w K mg base f cdv A outer s H E) (defBody sBoundBy) ⟨fun _ => k0 .none, k0, fun _ => False, fun _ => False⟩ (entry nmBoundBy ds)) : CBoundBy P w K mg base (k + 1) sp := by
  obtain ⟨f, fd, F, hm⟩ := M.fBoundBy
  exact CalD.of F hm scBoundBy (fun _ _ _ _ _ _ us hl => match us, hl with | [_], _ => rfl) len (fun cdv A outer s H E fm => body f cdv A outer s H E fm scBoundBy.nd)
abbrev CFlaws (P : Program) (w : World) (K : PySem.W.Frag) (mg : Str → Option Value) (base : Heap) (k : Nat) (sp : Sc) : Prop := CalD P w K mg base k "flaws" ["sieve"] sp
abbrev xFlaws (P : Program) (w : World) (K : PySem.W.Frag) (mg : Str → Option Value) (base : Heap) (f : Addr) (cdv : Value) (A : Around) (outer : List Env) (s : Shared) (H : Hp) (E : XK) : Unit → Cx := bodyX P w K mg base nmFlaws "flaws" (defScope sFlaws) f cdv A outer s H E
theorem goFlaws (M : Md w K mg) (len : ∀ ds k0, sp ds k0 → ds.length = 1) (body : ∀ (f : Addr) (cdv : Value) (A : Around) (outer : List Env) (s : Shared) (H : Hp) (E : XK), Fm P w K mg base nmFlaws (defScope sFlaws) k (xFlaws P w K mg base f cdv A outer s H E) → nmFlaws.Nodup → ∀ ds k0, sp ds k0 →
      XSs K (xFlaws P w K mg base f cdv A outer s H E) (defBody sFlaws) ⟨fun _ => k0 .none, k0, fun _ => False, fun _ => False⟩ (entry nmFlaws ds)) : CFlaws P w K mg base (k + 1) sp := by
  obtain ⟨f, fd, F, hm⟩ := M.fFlaws
  exact CalD.of F hm scFlaws (fun _ _ _ _ _ _ us hl => match us, hl with | [_], _ => rfl) len (fun cdv A outer s H E fm => body f cdv A outer s H E fm scFlaws.nd)
abbrev CStepsBound (P : Program) (w : World) (K : PySem.W.Frag) (mg : Str → Option Value) (base : Heap) (k : Nat) (sp : Sc) : Prop := CalD P w K mg base k "steps_bound" ["sieve"] sp
abbrev xStepsBound (P : Program) (w : World) (K : PySem.W.Frag) (mg : Str → Option Value) (base : Heap) (f : Addr) (cdv : Value) (A : Around) (outer : List Env) (s : Shared) (H : Hp) (E : XK) : Unit → Cx := bodyX P w K mg base nmStepsBound "steps_bound" (defScope sStepsBound) f cdv A outer s H E
theorem goStepsBound (M : Md w K mg) (len : ∀ ds k0, sp ds k0 → ds.length = 1) (body : ∀ (f : Addr) (cdv : Value) (A : Around) (outer : List Env) (s : Shared) (H : Hp) (E : XK), Fm P w K mg base nmStepsBound (defScope sStepsBound) k (xStepsBound P w K mg base f cdv A outer s H E) → nmStepsBound.Nodup → ∀ ds k0, sp ds k0 →
      XSs K (xStepsBound P w K mg base f cdv A outer s H E) (defBody sStepsBound) ⟨fun _ => k0 .none, k0, fun _ => False, fun _ => False⟩ (entry nmStepsBound ds)) : CStepsBound P w K mg base (k + 1) sp := by
  obtain ⟨f, fd, F, hm⟩ := M.fStepsBound
  exact CalD.of F hm scStepsBound (fun _ _ _ _ _ _ us hl => match us, hl with | [_], _ => rfl) len (fun cdv A outer s H E fm => body f cdv A outer s H E fm scStepsBound.nd)
abbrev CLWell (P : Program) (w : World) (K : PySem.W.Frag) (mg : Str → Option Value) (base : Heap) (k : Nat) (sp : Sc) : Prop := CalD P w K mg base k "_law_well" ["_law_script", "_law_turn", "_law_start"] sp
abbrev xLWell (P : Program) (w : World) (K : PySem.W.Frag) (mg : Str → Option Value) (base : Heap) (f : Addr) (cdv : Value) (A : Around) (outer : List Env) (s : Shared) (H : Hp) (E : XK) : Unit → Cx := bodyX P w K mg base nmLWell "_law_well" (defScope sLWell) f cdv A outer s H E
theorem goLWell (M : Md w K mg) (len : ∀ ds k0, sp ds k0 → ds.length = 3) (body : ∀ (f : Addr) (cdv : Value) (A : Around) (outer : List Env) (s : Shared) (H : Hp) (E : XK), Fm P w K mg base nmLWell (defScope sLWell) k (xLWell P w K mg base f cdv A outer s H E) → nmLWell.Nodup → ∀ ds k0, sp ds k0 →
      XSs K (xLWell P w K mg base f cdv A outer s H E) (defBody sLWell) ⟨fun _ => k0 .none, k0, fun _ => False, fun _ => False⟩ (entry nmLWell ds)) : CLWell P w K mg base (k + 1) sp := by
  obtain ⟨f, fd, F, hm⟩ := M.fLWell
  exact CalD.of F hm scLWell (fun _ _ _ _ _ _ us hl => match us, hl with | [_, _, _], _ => rfl) len (fun cdv A outer s H E fm => body f cdv A outer s H E fm scLWell.nd)
abbrev CLDraw (P : Program) (w : World) (K : PySem.W.Frag) (mg : Str → Option Value) (base : Heap) (k : Nat) (sp : Sc) : Prop := CalD P w K mg base k "_law_draw" ["_law_well_here", "_law_size"] sp
abbrev xLDraw (P : Program) (w : World) (K : PySem.W.Frag) (mg : Str → Option Value) (base : Heap) (f : Addr) (cdv : Value) (A : Around) (outer : List Env) (s : Shared) (H : Hp) (E : XK) : Unit → Cx := bodyX P w K mg base nmLDraw "_law_draw" (defScope sLDraw) f cdv A outer s H E
theorem goLDraw (M : Md w K mg) (len : ∀ ds k0, sp ds k0 → ds.length = 2) (body : ∀ (f : Addr) (cdv : Value) (A : Around) (outer : List Env) (s : Shared) (H : Hp) (E : XK), Fm P w K mg base nmLDraw (defScope sLDraw) k (xLDraw P w K mg base f cdv A outer s H E) → nmLDraw.Nodup → ∀ ds k0, sp ds k0 →
      XSs K (xLDraw P w K mg base f cdv A outer s H E) (defBody sLDraw) ⟨fun _ => k0 .none, k0, fun _ => False, fun _ => False⟩ (entry nmLDraw ds)) : CLDraw P w K mg base (k + 1) sp := by
  obtain ⟨f, fd, F, hm⟩ := M.fLDraw
  exact CalD.of F hm scLDraw (fun _ _ _ _ _ _ us hl => match us, hl with | [_, _], _ => rfl) len (fun cdv A outer s H E fm => body f cdv A outer s H E fm scLDraw.nd)
abbrev CLPick (P : Program) (w : World) (K : PySem.W.Frag) (mg : Str → Option Value) (base : Heap) (k : Nat) (sp : Sc) : Prop := CalD P w K mg base k "_law_pick" ["_law_well_here", "_law_some"] sp
abbrev xLPick (P : Program) (w : World) (K : PySem.W.Frag) (mg : Str → Option Value) (base : Heap) (f : Addr) (cdv : Value) (A : Around) (outer : List Env) (s : Shared) (H : Hp) (E : XK) : Unit → Cx := bodyX P w K mg base nmLPick "_law_pick" (defScope sLPick) f cdv A outer s H E
theorem goLPick (M : Md w K mg) (len : ∀ ds k0, sp ds k0 → ds.length = 2) (body : ∀ (f : Addr) (cdv : Value) (A : Around) (outer : List Env) (s : Shared) (H : Hp) (E : XK), Fm P w K mg base nmLPick (defScope sLPick) k (xLPick P w K mg base f cdv A outer s H E) → nmLPick.Nodup → ∀ ds k0, sp ds k0 →
      XSs K (xLPick P w K mg base f cdv A outer s H E) (defBody sLPick) ⟨fun _ => k0 .none, k0, fun _ => False, fun _ => False⟩ (entry nmLPick ds)) : CLPick P w K mg base (k + 1) sp := by
  obtain ⟨f, fd, F, hm⟩ := M.fLPick
  exact CalD.of F hm scLPick (fun _ _ _ _ _ _ us hl => match us, hl with | [_, _], _ => rfl) len (fun cdv A outer s H E fm => body f cdv A outer s H E fm scLPick.nd)
abbrev CLPlain (P : Program) (w : World) (K : PySem.W.Frag) (mg : Str → Option Value) (base : Heap) (k : Nat) (sp : Sc) : Prop := CalD P w K mg base k "_law_plain" ["_law_op", "_law_one", "_law_two"] sp
abbrev xLPlain (P : Program) (w : World) (K : PySem.W.Frag) (mg : Str → Option Value) (base : Heap) (f : Addr) (cdv : Value) (A : Around) (outer : List Env) (s : Shared) (H : Hp) (E : XK) : Unit → Cx := bodyX P w K mg base nmLPlain "_law_plain" (defScope sLPlain) f cdv A outer s H E
theorem goLPlain (M : Md w K mg) (len : ∀ ds k0, sp ds k0 → ds.length = 3) (body : ∀ (f : Addr) (cdv : Value) (A : Around) (outer : List Env) (s : Shared) (H : Hp) (E : XK), Fm P w K mg base nmLPlain (defScope sLPlain) k (xLPlain P w K mg base f cdv A outer s H E) → nmLPlain.Nodup → ∀ ds k0, sp ds k0 →
      XSs K (xLPlain P w K mg base f cdv A outer s H E) (defBody sLPlain) ⟨fun _ => k0 .none, k0, fun _ => False, fun _ => False⟩ (entry nmLPlain ds)) : CLPlain P w K mg base (k + 1) sp := by
  obtain ⟨f, fd, F, hm⟩ := M.fLPlain
  exact CalD.of F hm scLPlain (fun _ _ _ _ _ _ us hl => match us, hl with | [_, _, _], _ => rfl) len (fun cdv A outer s H E fm => body f cdv A outer s H E fm scLPlain.nd)
abbrev CLPut (P : Program) (w : World) (K : PySem.W.Frag) (mg : Str → Option Value) (base : Heap) (k : Nat) (sp : Sc) : Prop := CalD P w K mg base k "_law_put" ["_law_row", "_law_at", "_law_value"] sp
abbrev xLPut (P : Program) (w : World) (K : PySem.W.Frag) (mg : Str → Option Value) (base : Heap) (f : Addr) (cdv : Value) (A : Around) (outer : List Env) (s : Shared) (H : Hp) (E : XK) : Unit → Cx := bodyX P w K mg base nmLPut "_law_put" (defScope sLPut) f cdv A outer s H E
theorem goLPut (M : Md w K mg) (len : ∀ ds k0, sp ds k0 → ds.length = 3) (body : ∀ (f : Addr) (cdv : Value) (A : Around) (outer : List Env) (s : Shared) (H : Hp) (E : XK), Fm P w K mg base nmLPut (defScope sLPut) k (xLPut P w K mg base f cdv A outer s H E) → nmLPut.Nodup → ∀ ds k0, sp ds k0 →
      XSs K (xLPut P w K mg base f cdv A outer s H E) (defBody sLPut) ⟨fun _ => k0 .none, k0, fun _ => False, fun _ => False⟩ (entry nmLPut ds)) : CLPut P w K mg base (k + 1) sp := by
  obtain ⟨f, fd, F, hm⟩ := M.fLPut
  exact CalD.of F hm scLPut (fun _ _ _ _ _ _ us hl => match us, hl with | [_, _, _], _ => rfl) len (fun cdv A outer s H E fm => body f cdv A outer s H E fm scLPut.nd)
abbrev CLOps (P : Program) (w : World) (K : PySem.W.Frag) (mg : Str → Option Value) (base : Heap) (k : Nat) (sp : Sc) : Prop := CalD P w K mg base k "_law_ops" [] sp
abbrev xLOps (P : Program) (w : World) (K : PySem.W.Frag) (mg : Str → Option Value) (base : Heap) (f : Addr) (cdv : Value) (A : Around) (outer : List Env) (s : Shared) (H : Hp) (E : XK) : Unit → Cx := bodyX P w K mg base nmLOps "_law_ops" (defScope sLOps) f cdv A outer s H E
theorem goLOps (M : Md w K mg) (len : ∀ ds k0, sp ds k0 → ds.length = 0) (body : ∀ (f : Addr) (cdv : Value) (A : Around) (outer : List Env) (s : Shared) (H : Hp) (E : XK), Fm P w K mg base nmLOps (defScope sLOps) k (xLOps P w K mg base f cdv A outer s H E) → nmLOps.Nodup → ∀ ds k0, sp ds k0 →
      XSs K (xLOps P w K mg base f cdv A outer s H E) (defBody sLOps) ⟨fun _ => k0 .none, k0, fun _ => False, fun _ => False⟩ (entry nmLOps ds)) : CLOps P w K mg base (k + 1) sp := by
  obtain ⟨f, fd, F, hm⟩ := M.fLOps
  exact CalD.of F hm scLOps (fun _ _ _ _ _ _ us hl => match us, hl with | [], _ => rfl) len (fun cdv A outer s H E fm => body f cdv A outer s H E fm scLOps.nd)
abbrev CLTableOf (P : Program) (w : World) (K : PySem.W.Frag) (mg : Str → Option Value) (base : Heap) (k : Nat) (sp : Sc) : Prop := CalD P w K mg base k "_law_table_of" ["_law_row"] sp
abbrev xLTableOf (P : Program) (w : World) (K : PySem.W.Frag) (mg : Str → Option Value) (base : Heap) (f : Addr) (cdv : Value) (A : Around) (outer : List Env) (s : Shared) (H : Hp) (E : XK) : Unit → Cx := bodyX P w K mg base nmLTableOf "_law_table_of" (defScope sLTableOf) f cdv A outer s H E
theorem goLTableOf (M : Md w K mg) (len : ∀ ds k0, sp ds k0 → ds.length = 1) (body : ∀ (f : Addr) (cdv : Value) (A : Around) (outer : List Env) (s : Shared) (H : Hp) (E : XK), Fm P w K mg base nmLTableOf (defScope sLTableOf) k (xLTableOf P w K mg base f cdv A outer s H E) → nmLTableOf.Nodup → ∀ ds k0, sp ds k0 →
      XSs K (xLTableOf P w K mg base f cdv A outer s H E) (defBody sLTableOf) ⟨fun _ => k0 .none, k0, fun _ => False, fun _ => False⟩ (entry nmLTableOf ds)) : CLTableOf P w K mg base (k + 1) sp := by
  obtain ⟨f, fd, F, hm⟩ := M.fLTableOf
  exact CalD.of F hm scLTableOf (fun _ _ _ _ _ _ us hl => match us, hl with | [_], _ => rfl) len (fun cdv A outer s H E fm => body f cdv A outer s H E fm scLTableOf.nd)
abbrev CLIsServed (P : Program) (w : World) (K : PySem.W.Frag) (mg : Str → Option Value) (base : Heap) (k : Nat) (sp : Sc) : Prop := CalD P w K mg base k "_law_is_served" ["_law_row", "_law_kinds_here"] sp
abbrev xLIsServed (P : Program) (w : World) (K : PySem.W.Frag) (mg : Str → Option Value) (base : Heap) (f : Addr) (cdv : Value) (A : Around) (outer : List Env) (s : Shared) (H : Hp) (E : XK) : Unit → Cx := bodyX P w K mg base nmLIsServed "_law_is_served" (defScope sLIsServed) f cdv A outer s H E
theorem goLIsServed (M : Md w K mg) (len : ∀ ds k0, sp ds k0 → ds.length = 2) (body : ∀ (f : Addr) (cdv : Value) (A : Around) (outer : List Env) (s : Shared) (H : Hp) (E : XK), Fm P w K mg base nmLIsServed (defScope sLIsServed) k (xLIsServed P w K mg base f cdv A outer s H E) → nmLIsServed.Nodup → ∀ ds k0, sp ds k0 →
      XSs K (xLIsServed P w K mg base f cdv A outer s H E) (defBody sLIsServed) ⟨fun _ => k0 .none, k0, fun _ => False, fun _ => False⟩ (entry nmLIsServed ds)) : CLIsServed P w K mg base (k + 1) sp := by
  obtain ⟨f, fd, F, hm⟩ := M.fLIsServed
  exact CalD.of F hm scLIsServed (fun _ _ _ _ _ _ us hl => match us, hl with | [_, _], _ => rfl) len (fun cdv A outer s H E fm => body f cdv A outer s H E fm scLIsServed.nd)
abbrev CLLoop (P : Program) (w : World) (K : PySem.W.Frag) (mg : Str → Option Value) (base : Heap) (k : Nat) (sp : Sc) : Prop := CalD P w K mg base k "_law_loop" ["_law_sieve_here", "_law_place"] sp
abbrev xLLoop (P : Program) (w : World) (K : PySem.W.Frag) (mg : Str → Option Value) (base : Heap) (f : Addr) (cdv : Value) (A : Around) (outer : List Env) (s : Shared) (H : Hp) (E : XK) : Unit → Cx := bodyX P w K mg base nmLLoop "_law_loop" (defScope sLLoop) f cdv A outer s H E
theorem goLLoop (M : Md w K mg) (len : ∀ ds k0, sp ds k0 → ds.length = 2) (body : ∀ (f : Addr) (cdv : Value) (A : Around) (outer : List Env) (s : Shared) (H : Hp) (E : XK), Fm P w K mg base nmLLoop (defScope sLLoop) k (xLLoop P w K mg base f cdv A outer s H E) → nmLLoop.Nodup → ∀ ds k0, sp ds k0 →
      XSs K (xLLoop P w K mg base f cdv A outer s H E) (defBody sLLoop) ⟨fun _ => k0 .none, k0, fun _ => False, fun _ => False⟩ (entry nmLLoop ds)) : CLLoop P w K mg base (k + 1) sp := by
  obtain ⟨f, fd, F, hm⟩ := M.fLLoop
  exact CalD.of F hm scLLoop (fun _ _ _ _ _ _ us hl => match us, hl with | [_, _], _ => rfl) len (fun cdv A outer s H E fm => body f cdv A outer s H E fm scLLoop.nd)
abbrev CLAgains (P : Program) (w : World) (K : PySem.W.Frag) (mg : Str → Option Value) (base : Heap) (k : Nat) (sp : Sc) : Prop := CalD P w K mg base k "_law_agains" ["_law_sieve_here"] sp
abbrev xLAgains (P : Program) (w : World) (K : PySem.W.Frag) (mg : Str → Option Value) (base : Heap) (f : Addr) (cdv : Value) (A : Around) (outer : List Env) (s : Shared) (H : Hp) (E : XK) : Unit → Cx := bodyX P w K mg base nmLAgains "_law_agains" (defScope sLAgains) f cdv A outer s H E
theorem goLAgains (M : Md w K mg) (len : ∀ ds k0, sp ds k0 → ds.length = 1) (body : ∀ (f : Addr) (cdv : Value) (A : Around) (outer : List Env) (s : Shared) (H : Hp) (E : XK), Fm P w K mg base nmLAgains (defScope sLAgains) k (xLAgains P w K mg base f cdv A outer s H E) → nmLAgains.Nodup → ∀ ds k0, sp ds k0 →
      XSs K (xLAgains P w K mg base f cdv A outer s H E) (defBody sLAgains) ⟨fun _ => k0 .none, k0, fun _ => False, fun _ => False⟩ (entry nmLAgains ds)) : CLAgains P w K mg base (k + 1) sp := by
  obtain ⟨f, fd, F, hm⟩ := M.fLAgains
  exact CalD.of F hm scLAgains (fun _ _ _ _ _ _ us hl => match us, hl with | [_], _ => rfl) len (fun cdv A outer s H E fm => body f cdv A outer s H E fm scLAgains.nd)
abbrev CLIsCrossed (P : Program) (w : World) (K : PySem.W.Frag) (mg : Str → Option Value) (base : Heap) (k : Nat) (sp : Sc) : Prop := CalD P w K mg base k "_law_is_crossed" ["_law_sieve_here", "_law_place"] sp
abbrev xLIsCrossed (P : Program) (w : World) (K : PySem.W.Frag) (mg : Str → Option Value) (base : Heap) (f : Addr) (cdv : Value) (A : Around) (outer : List Env) (s : Shared) (H : Hp) (E : XK) : Unit → Cx := bodyX P w K mg base nmLIsCrossed "_law_is_crossed" (defScope sLIsCrossed) f cdv A outer s H E
theorem goLIsCrossed (M : Md w K mg) (len : ∀ ds k0, sp ds k0 → ds.length = 2) (body : ∀ (f : Addr) (cdv : Value) (A : Around) (outer : List Env) (s : Shared) (H : Hp) (E : XK), Fm P w K mg base nmLIsCrossed (defScope sLIsCrossed) k (xLIsCrossed P w K mg base f cdv A outer s H E) → nmLIsCrossed.Nodup → ∀ ds k0, sp ds k0 →
      XSs K (xLIsCrossed P w K mg base f cdv A outer s H E) (defBody sLIsCrossed) ⟨fun _ => k0 .none, k0, fun _ => False, fun _ => False⟩ (entry nmLIsCrossed ds)) : CLIsCrossed P w K mg base (k + 1) sp := by
  obtain ⟨f, fd, F, hm⟩ := M.fLIsCrossed
  exact CalD.of F hm scLIsCrossed (fun _ _ _ _ _ _ us hl => match us, hl with | [_, _], _ => rfl) len (fun cdv A outer s H E fm => body f cdv A outer s H E fm scLIsCrossed.nd)
abbrev CLFlaw (P : Program) (w : World) (K : PySem.W.Frag) (mg : Str → Option Value) (base : Heap) (k : Nat) (sp : Sc) : Prop := CalD P w K mg base k "_law_flaw" ["_law_sieve_here", "_law_place"] sp
abbrev xLFlaw (P : Program) (w : World) (K : PySem.W.Frag) (mg : Str → Option Value) (base : Heap) (f : Addr) (cdv : Value) (A : Around) (outer : List Env) (s : Shared) (H : Hp) (E : XK) : Unit → Cx := bodyX P w K mg base nmLFlaw "_law_flaw" (defScope sLFlaw) f cdv A outer s H E
theorem goLFlaw (M : Md w K mg) (len : ∀ ds k0, sp ds k0 → ds.length = 2) (body : ∀ (f : Addr) (cdv : Value) (A : Around) (outer : List Env) (s : Shared) (H : Hp) (E : XK), Fm P w K mg base nmLFlaw (defScope sLFlaw) k (xLFlaw P w K mg base f cdv A outer s H E) → nmLFlaw.Nodup → ∀ ds k0, sp ds k0 →
      XSs K (xLFlaw P w K mg base f cdv A outer s H E) (defBody sLFlaw) ⟨fun _ => k0 .none, k0, fun _ => False, fun _ => False⟩ (entry nmLFlaw ds)) : CLFlaw P w K mg base (k + 1) sp := by
  obtain ⟨f, fd, F, hm⟩ := M.fLFlaw
  exact CalD.of F hm scLFlaw (fun _ _ _ _ _ _ us hl => match us, hl with | [_, _], _ => rfl) len (fun cdv A outer s H E fm => body f cdv A outer s H E fm scLFlaw.nd)
abbrev CLFlaws (P : Program) (w : World) (K : PySem.W.Frag) (mg : Str → Option Value) (base : Heap) (k : Nat) (sp : Sc) : Prop := CalD P w K mg base k "_law_flaws" ["_law_sieve_here"] sp
abbrev xLFlaws (P : Program) (w : World) (K : PySem.W.Frag) (mg : Str → Option Value) (base : Heap) (f : Addr) (cdv : Value) (A : Around) (outer : List Env) (s : Shared) (H : Hp) (E : XK) : Unit → Cx := bodyX P w K mg base nmLFlaws "_law_flaws" (defScope sLFlaws) f cdv A outer s H E
theorem goLFlaws (M : Md w K mg) (len : ∀ ds k0, sp ds k0 → ds.length = 1) (body : ∀ (f : Addr) (cdv : Value) (A : Around) (outer : List Env) (s : Shared) (H : Hp) (E : XK), Fm P w K mg base nmLFlaws (defScope sLFlaws) k (xLFlaws P w K mg base f cdv A outer s H E) → nmLFlaws.Nodup → ∀ ds k0, sp ds k0 →
      XSs K (xLFlaws P w K mg base f cdv A outer s H E) (defBody sLFlaws) ⟨fun _ => k0 .none, k0, fun _ => False, fun _ => False⟩ (entry nmLFlaws ds)) : CLFlaws P w K mg base (k + 1) sp := by
  obtain ⟨f, fd, F, hm⟩ := M.fLFlaws
  exact CalD.of F hm scLFlaws (fun _ _ _ _ _ _ us hl => match us, hl with | [_], _ => rfl) len (fun cdv A outer s H E fm => body f cdv A outer s H E fm scLFlaws.nd)
abbrev CLBound (P : Program) (w : World) (K : PySem.W.Frag) (mg : Str → Option Value) (base : Heap) (k : Nat) (sp : Sc) : Prop := CalD P w K mg base k "_law_bound" ["_law_sieve_here"] sp
abbrev xLBound (P : Program) (w : World) (K : PySem.W.Frag) (mg : Str → Option Value) (base : Heap) (f : Addr) (cdv : Value) (A : Around) (outer : List Env) (s : Shared) (H : Hp) (E : XK) : Unit → Cx := bodyX P w K mg base nmLBound "_law_bound" (defScope sLBound) f cdv A outer s H E
theorem goLBound (M : Md w K mg) (len : ∀ ds k0, sp ds k0 → ds.length = 1) (body : ∀ (f : Addr) (cdv : Value) (A : Around) (outer : List Env) (s : Shared) (H : Hp) (E : XK), Fm P w K mg base nmLBound (defScope sLBound) k (xLBound P w K mg base f cdv A outer s H E) → nmLBound.Nodup → ∀ ds k0, sp ds k0 →
      XSs K (xLBound P w K mg base f cdv A outer s H E) (defBody sLBound) ⟨fun _ => k0 .none, k0, fun _ => False, fun _ => False⟩ (entry nmLBound ds)) : CLBound P w K mg base (k + 1) sp := by
  obtain ⟨f, fd, F, hm⟩ := M.fLBound
  exact CalD.of F hm scLBound (fun _ _ _ _ _ _ us hl => match us, hl with | [_], _ => rfl) len (fun cdv A outer s H E fm => body f cdv A outer s H E fm scLBound.nd)
abbrev CLHolds (P : Program) (w : World) (K : PySem.W.Frag) (mg : Str → Option Value) (base : Heap) (k : Nat) (sp : Sc) : Prop := CalD P w K mg base k "_law_holds" ["_law_relation", "_law_one", "_law_two"] sp
abbrev xLHolds (P : Program) (w : World) (K : PySem.W.Frag) (mg : Str → Option Value) (base : Heap) (f : Addr) (cdv : Value) (A : Around) (outer : List Env) (s : Shared) (H : Hp) (E : XK) : Unit → Cx := bodyX P w K mg base nmLHolds "_law_holds" (defScope sLHolds) f cdv A outer s H E
theorem goLHolds (M : Md w K mg) (len : ∀ ds k0, sp ds k0 → ds.length = 3) (body : ∀ (f : Addr) (cdv : Value) (A : Around) (outer : List Env) (s : Shared) (H : Hp) (E : XK), Fm P w K mg base nmLHolds (defScope sLHolds) k (xLHolds P w K mg base f cdv A outer s H E) → nmLHolds.Nodup → ∀ ds k0, sp ds k0 →
      XSs K (xLHolds P w K mg base f cdv A outer s H E) (defBody sLHolds) ⟨fun _ => k0 .none, k0, fun _ => False, fun _ => False⟩ (entry nmLHolds ds)) : CLHolds P w K mg base (k + 1) sp := by
  obtain ⟨f, fd, F, hm⟩ := M.fLHolds
  exact CalD.of F hm scLHolds (fun _ _ _ _ _ _ us hl => match us, hl with | [_, _, _], _ => rfl) len (fun cdv A outer s H E fm => body f cdv A outer s H E fm scLHolds.nd)
abbrev CLFault (P : Program) (w : World) (K : PySem.W.Frag) (mg : Str → Option Value) (base : Heap) (k : Nat) (sp : Sc) : Prop := CalD P w K mg base k "_law_fault" ["_law_row", "_law_run"] sp
abbrev xLFault (P : Program) (w : World) (K : PySem.W.Frag) (mg : Str → Option Value) (base : Heap) (f : Addr) (cdv : Value) (A : Around) (outer : List Env) (s : Shared) (H : Hp) (E : XK) : Unit → Cx := bodyX P w K mg base nmLFault "_law_fault" (defScope sLFault) f cdv A outer s H E
theorem goLFault (M : Md w K mg) (len : ∀ ds k0, sp ds k0 → ds.length = 2) (body : ∀ (f : Addr) (cdv : Value) (A : Around) (outer : List Env) (s : Shared) (H : Hp) (E : XK), Fm P w K mg base nmLFault (defScope sLFault) k (xLFault P w K mg base f cdv A outer s H E) → nmLFault.Nodup → ∀ ds k0, sp ds k0 →
      XSs K (xLFault P w K mg base f cdv A outer s H E) (defBody sLFault) ⟨fun _ => k0 .none, k0, fun _ => False, fun _ => False⟩ (entry nmLFault ds)) : CLFault P w K mg base (k + 1) sp := by
  obtain ⟨f, fd, F, hm⟩ := M.fLFault
  exact CalD.of F hm scLFault (fun _ _ _ _ _ _ us hl => match us, hl with | [_, _], _ => rfl) len (fun cdv A outer s H E fm => body f cdv A outer s H E fm scLFault.nd)
abbrev CLFound (P : Program) (w : World) (K : PySem.W.Frag) (mg : Str → Option Value) (base : Heap) (k : Nat) (sp : Sc) : Prop := CalD P w K mg base k "_law_found" ["_law_row", "_law_run"] sp
abbrev xLFound (P : Program) (w : World) (K : PySem.W.Frag) (mg : Str → Option Value) (base : Heap) (f : Addr) (cdv : Value) (A : Around) (outer : List Env) (s : Shared) (H : Hp) (E : XK) : Unit → Cx := bodyX P w K mg base nmLFound "_law_found" (defScope sLFound) f cdv A outer s H E
theorem goLFound (M : Md w K mg) (len : ∀ ds k0, sp ds k0 → ds.length = 2) (body : ∀ (f : Addr) (cdv : Value) (A : Around) (outer : List Env) (s : Shared) (H : Hp) (E : XK), Fm P w K mg base nmLFound (defScope sLFound) k (xLFound P w K mg base f cdv A outer s H E) → nmLFound.Nodup → ∀ ds k0, sp ds k0 →
      XSs K (xLFound P w K mg base f cdv A outer s H E) (defBody sLFound) ⟨fun _ => k0 .none, k0, fun _ => False, fun _ => False⟩ (entry nmLFound ds)) : CLFound P w K mg base (k + 1) sp := by
  obtain ⟨f, fd, F, hm⟩ := M.fLFound
  exact CalD.of F hm scLFound (fun _ _ _ _ _ _ us hl => match us, hl with | [_, _], _ => rfl) len (fun cdv A outer s H E fm => body f cdv A outer s H E fm scLFound.nd)
abbrev CLTablesBehind (P : Program) (w : World) (K : PySem.W.Frag) (mg : Str → Option Value) (base : Heap) (k : Nat) (sp : Sc) : Prop := CalD P w K mg base k "_law_tables_behind" ["_law_row", "_law_run"] sp
abbrev xLTablesBehind (P : Program) (w : World) (K : PySem.W.Frag) (mg : Str → Option Value) (base : Heap) (f : Addr) (cdv : Value) (A : Around) (outer : List Env) (s : Shared) (H : Hp) (E : XK) : Unit → Cx := bodyX P w K mg base nmLTablesBehind "_law_tables_behind" (defScope sLTablesBehind) f cdv A outer s H E
theorem goLTablesBehind (M : Md w K mg) (len : ∀ ds k0, sp ds k0 → ds.length = 2) (body : ∀ (f : Addr) (cdv : Value) (A : Around) (outer : List Env) (s : Shared) (H : Hp) (E : XK), Fm P w K mg base nmLTablesBehind (defScope sLTablesBehind) k (xLTablesBehind P w K mg base f cdv A outer s H E) → nmLTablesBehind.Nodup → ∀ ds k0, sp ds k0 →
      XSs K (xLTablesBehind P w K mg base f cdv A outer s H E) (defBody sLTablesBehind) ⟨fun _ => k0 .none, k0, fun _ => False, fun _ => False⟩ (entry nmLTablesBehind ds)) : CLTablesBehind P w K mg base (k + 1) sp := by
  obtain ⟨f, fd, F, hm⟩ := M.fLTablesBehind
  exact CalD.of F hm scLTablesBehind (fun _ _ _ _ _ _ us hl => match us, hl with | [_, _], _ => rfl) len (fun cdv A outer s H E fm => body f cdv A outer s H E fm scLTablesBehind.nd)
abbrev CLGoing (P : Program) (w : World) (K : PySem.W.Frag) (mg : Str → Option Value) (base : Heap) (k : Nat) (sp : Sc) : Prop := CalD P w K mg base k "_law_going" ["_law_row", "_law_run"] sp
abbrev xLGoing (P : Program) (w : World) (K : PySem.W.Frag) (mg : Str → Option Value) (base : Heap) (f : Addr) (cdv : Value) (A : Around) (outer : List Env) (s : Shared) (H : Hp) (E : XK) : Unit → Cx := bodyX P w K mg base nmLGoing "_law_going" (defScope sLGoing) f cdv A outer s H E
theorem goLGoing (M : Md w K mg) (len : ∀ ds k0, sp ds k0 → ds.length = 2) (body : ∀ (f : Addr) (cdv : Value) (A : Around) (outer : List Env) (s : Shared) (H : Hp) (E : XK), Fm P w K mg base nmLGoing (defScope sLGoing) k (xLGoing P w K mg base f cdv A outer s H E) → nmLGoing.Nodup → ∀ ds k0, sp ds k0 →
      XSs K (xLGoing P w K mg base f cdv A outer s H E) (defBody sLGoing) ⟨fun _ => k0 .none, k0, fun _ => False, fun _ => False⟩ (entry nmLGoing ds)) : CLGoing P w K mg base (k + 1) sp := by
  obtain ⟨f, fd, F, hm⟩ := M.fLGoing
  exact CalD.of F hm scLGoing (fun _ _ _ _ _ _ us hl => match us, hl with | [_, _], _ => rfl) len (fun cdv A outer s H E fm => body f cdv A outer s H E fm scLGoing.nd)
abbrev CLStep (P : Program) (w : World) (K : PySem.W.Frag) (mg : Str → Option Value) (base : Heap) (k : Nat) (sp : Sc) : Prop := CalD P w K mg base k "_law_step" ["_law_sieve_here", "_law_run"] sp
abbrev xLStep (P : Program) (w : World) (K : PySem.W.Frag) (mg : Str → Option Value) (base : Heap) (f : Addr) (cdv : Value) (A : Around) (outer : List Env) (s : Shared) (H : Hp) (E : XK) : Unit → Cx := bodyX P w K mg base nmLStep "_law_step" (defScope sLStep) f cdv A outer s H E
theorem goLStep (M : Md w K mg) (len : ∀ ds k0, sp ds k0 → ds.length = 2) (body : ∀ (f : Addr) (cdv : Value) (A : Around) (outer : List Env) (s : Shared) (H : Hp) (E : XK), Fm P w K mg base nmLStep (defScope sLStep) k (xLStep P w K mg base f cdv A outer s H E) → nmLStep.Nodup → ∀ ds k0, sp ds k0 →
      XSs K (xLStep P w K mg base f cdv A outer s H E) (defBody sLStep) ⟨fun _ => k0 .none, k0, fun _ => False, fun _ => False⟩ (entry nmLStep ds)) : CLStep P w K mg base (k + 1) sp := by
  obtain ⟨f, fd, F, hm⟩ := M.fLStep
  exact CalD.of F hm scLStep (fun _ _ _ _ _ _ us hl => match us, hl with | [_, _], _ => rfl) len (fun cdv A outer s H E fm => body f cdv A outer s H E fm scLStep.nd)
abbrev CLBegun (P : Program) (w : World) (K : PySem.W.Frag) (mg : Str → Option Value) (base : Heap) (k : Nat) (sp : Sc) : Prop := CalD P w K mg base k "_law_begun" ["_law_packet", "_law_tables", "_law_clock", "_law_writable"] sp
abbrev xLBegun (P : Program) (w : World) (K : PySem.W.Frag) (mg : Str → Option Value) (base : Heap) (f : Addr) (cdv : Value) (A : Around) (outer : List Env) (s : Shared) (H : Hp) (E : XK) : Unit → Cx := bodyX P w K mg base nmLBegun "_law_begun" (defScope sLBegun) f cdv A outer s H E
theorem goLBegun (M : Md w K mg) (len : ∀ ds k0, sp ds k0 → ds.length = 4) (body : ∀ (f : Addr) (cdv : Value) (A : Around) (outer : List Env) (s : Shared) (H : Hp) (E : XK), Fm P w K mg base nmLBegun (defScope sLBegun) k (xLBegun P w K mg base f cdv A outer s H E) → nmLBegun.Nodup → ∀ ds k0, sp ds k0 →
      XSs K (xLBegun P w K mg base f cdv A outer s H E) (defBody sLBegun) ⟨fun _ => k0 .none, k0, fun _ => False, fun _ => False⟩ (entry nmLBegun ds)) : CLBegun P w K mg base (k + 1) sp := by
  obtain ⟨f, fd, F, hm⟩ := M.fLBegun
  exact CalD.of F hm scLBegun (fun _ _ _ _ _ _ us hl => match us, hl with | [_, _, _, _], _ => rfl) len (fun cdv A outer s H E fm => body f cdv A outer s H E fm scLBegun.nd)
abbrev CLWords (P : Program) (w : World) (K : PySem.W.Frag) (mg : Str → Option Value) (base : Heap) (k : Nat) (sp : Sc) : Prop := CalD P w K mg base k "_law_words" ["_law_well_here", "_law_many", "_law_far"] sp
abbrev xLWords (P : Program) (w : World) (K : PySem.W.Frag) (mg : Str → Option Value) (base : Heap) (f : Addr) (cdv : Value) (A : Around) (outer : List Env) (s : Shared) (H : Hp) (E : XK) : Unit → Cx := bodyX P w K mg base nmLWords "_law_words" (defScope sLWords) f cdv A outer s H E
theorem goLWords (M : Md w K mg) (len : ∀ ds k0, sp ds k0 → ds.length = 3) (body : ∀ (f : Addr) (cdv : Value) (A : Around) (outer : List Env) (s : Shared) (H : Hp) (E : XK), Fm P w K mg base nmLWords (defScope sLWords) k (xLWords P w K mg base f cdv A outer s H E) → nmLWords.Nodup → ∀ ds k0, sp ds k0 →
      XSs K (xLWords P w K mg base f cdv A outer s H E) (defBody sLWords) ⟨fun _ => k0 .none, k0, fun _ => False, fun _ => False⟩ (entry nmLWords ds)) : CLWords P w K mg base (k + 1) sp := by
  obtain ⟨f, fd, F, hm⟩ := M.fLWords
  exact CalD.of F hm scLWords (fun _ _ _ _ _ _ us hl => match us, hl with | [_, _, _], _ => rfl) len (fun cdv A outer s H E fm => body f cdv A outer s H E fm scLWords.nd)
abbrev CLBytes (P : Program) (w : World) (K : PySem.W.Frag) (mg : Str → Option Value) (base : Heap) (k : Nat) (sp : Sc) : Prop := CalD P w K mg base k "_law_bytes" ["_law_well_here", "_law_many"] sp
abbrev xLBytes (P : Program) (w : World) (K : PySem.W.Frag) (mg : Str → Option Value) (base : Heap) (f : Addr) (cdv : Value) (A : Around) (outer : List Env) (s : Shared) (H : Hp) (E : XK) : Unit → Cx := bodyX P w K mg base nmLBytes "_law_bytes" (defScope sLBytes) f cdv A outer s H E
theorem goLBytes (M : Md w K mg) (len : ∀ ds k0, sp ds k0 → ds.length = 2) (body : ∀ (f : Addr) (cdv : Value) (A : Around) (outer : List Env) (s : Shared) (H : Hp) (E : XK), Fm P w K mg base nmLBytes (defScope sLBytes) k (xLBytes P w K mg base f cdv A outer s H E) → nmLBytes.Nodup → ∀ ds k0, sp ds k0 →
      XSs K (xLBytes P w K mg base f cdv A outer s H E) (defBody sLBytes) ⟨fun _ => k0 .none, k0, fun _ => False, fun _ => False⟩ (entry nmLBytes ds)) : CLBytes P w K mg base (k + 1) sp := by
  obtain ⟨f, fd, F, hm⟩ := M.fLBytes
  exact CalD.of F hm scLBytes (fun _ _ _ _ _ _ us hl => match us, hl with | [_, _], _ => rfl) len (fun cdv A outer s H E fm => body f cdv A outer s H E fm scLBytes.nd)
abbrev CLCells (P : Program) (w : World) (K : PySem.W.Frag) (mg : Str → Option Value) (base : Heap) (k : Nat) (sp : Sc) : Prop := CalD P w K mg base k "_law_cells" ["_law_well_here", "_law_kind"] sp
abbrev xLCells (P : Program) (w : World) (K : PySem.W.Frag) (mg : Str → Option Value) (base : Heap) (f : Addr) (cdv : Value) (A : Around) (outer : List Env) (s : Shared) (H : Hp) (E : XK) : Unit → Cx := bodyX P w K mg base nmLCells "_law_cells" (defScope sLCells) f cdv A outer s H E
theorem goLCells (M : Md w K mg) (len : ∀ ds k0, sp ds k0 → ds.length = 2) (body : ∀ (f : Addr) (cdv : Value) (A : Around) (outer : List Env) (s : Shared) (H : Hp) (E : XK), Fm P w K mg base nmLCells (defScope sLCells) k (xLCells P w K mg base f cdv A outer s H E) → nmLCells.Nodup → ∀ ds k0, sp ds k0 →
      XSs K (xLCells P w K mg base f cdv A outer s H E) (defBody sLCells) ⟨fun _ => k0 .none, k0, fun _ => False, fun _ => False⟩ (entry nmLCells ds)) : CLCells P w K mg base (k + 1) sp := by
  obtain ⟨f, fd, F, hm⟩ := M.fLCells
  exact CalD.of F hm scLCells (fun _ _ _ _ _ _ us hl => match us, hl with | [_, _], _ => rfl) len (fun cdv A outer s H E fm => body f cdv A outer s H E fm scLCells.nd)
abbrev CLKinds (P : Program) (w : World) (K : PySem.W.Frag) (mg : Str → Option Value) (base : Heap) (k : Nat) (sp : Sc) : Prop := CalD P w K mg base k "_law_kinds" ["_law_well_here"] sp
abbrev xLKinds (P : Program) (w : World) (K : PySem.W.Frag) (mg : Str → Option Value) (base : Heap) (f : Addr) (cdv : Value) (A : Around) (outer : List Env) (s : Shared) (H : Hp) (E : XK) : Unit → Cx := bodyX P w K mg base nmLKinds "_law_kinds" (defScope sLKinds) f cdv A outer s H E
theorem goLKinds (M : Md w K mg) (len : ∀ ds k0, sp ds k0 → ds.length = 1) (body : ∀ (f : Addr) (cdv : Value) (A : Around) (outer : List Env) (s : Shared) (H : Hp) (E : XK), Fm P w K mg base nmLKinds (defScope sLKinds) k (xLKinds P w K mg base f cdv A outer s H E) → nmLKinds.Nodup → ∀ ds k0, sp ds k0 →
      XSs K (xLKinds P w K mg base f cdv A outer s H E) (defBody sLKinds) ⟨fun _ => k0 .none, k0, fun _ => False, fun _ => False⟩ (entry nmLKinds ds)) : CLKinds P w K mg base (k + 1) sp := by
  obtain ⟨f, fd, F, hm⟩ := M.fLKinds
  exact CalD.of F hm scLKinds (fun _ _ _ _ _ _ us hl => match us, hl with | [_], _ => rfl) len (fun cdv A outer s H E fm => body f cdv A outer s H E fm scLKinds.nd)
abbrev CLGrant (P : Program) (w : World) (K : PySem.W.Frag) (mg : Str → Option Value) (base : Heap) (k : Nat) (sp : Sc) : Prop := CalD P w K mg base k "_law_grant" ["_law_well_here"] sp
abbrev xLGrant (P : Program) (w : World) (K : PySem.W.Frag) (mg : Str → Option Value) (base : Heap) (f : Addr) (cdv : Value) (A : Around) (outer : List Env) (s : Shared) (H : Hp) (E : XK) : Unit → Cx := bodyX P w K mg base nmLGrant "_law_grant" (defScope sLGrant) f cdv A outer s H E
theorem goLGrant (M : Md w K mg) (len : ∀ ds k0, sp ds k0 → ds.length = 1) (body : ∀ (f : Addr) (cdv : Value) (A : Around) (outer : List Env) (s : Shared) (H : Hp) (E : XK), Fm P w K mg base nmLGrant (defScope sLGrant) k (xLGrant P w K mg base f cdv A outer s H E) → nmLGrant.Nodup → ∀ ds k0, sp ds k0 →
      XSs K (xLGrant P w K mg base f cdv A outer s H E) (defBody sLGrant) ⟨fun _ => k0 .none, k0, fun _ => False, fun _ => False⟩ (entry nmLGrant ds)) : CLGrant P w K mg base (k + 1) sp := by
  obtain ⟨f, fd, F, hm⟩ := M.fLGrant
  exact CalD.of F hm scLGrant (fun _ _ _ _ _ _ us hl => match us, hl with | [_], _ => rfl) len (fun cdv A outer s H E fm => body f cdv A outer s H E fm scLGrant.nd)
abbrev CLFitting (P : Program) (w : World) (K : PySem.W.Frag) (mg : Str → Option Value) (base : Heap) (k : Nat) (sp : Sc) : Prop := CalD P w K mg base k "_law_fitting" ["_law_well_here", "_law_grant_here"] sp
abbrev xLFitting (P : Program) (w : World) (K : PySem.W.Frag) (mg : Str → Option Value) (base : Heap) (f : Addr) (cdv : Value) (A : Around) (outer : List Env) (s : Shared) (H : Hp) (E : XK) : Unit → Cx := bodyX P w K mg base nmLFitting "_law_fitting" (defScope sLFitting) f cdv A outer s H E
theorem goLFitting (M : Md w K mg) (len : ∀ ds k0, sp ds k0 → ds.length = 2) (body : ∀ (f : Addr) (cdv : Value) (A : Around) (outer : List Env) (s : Shared) (H : Hp) (E : XK), Fm P w K mg base nmLFitting (defScope sLFitting) k (xLFitting P w K mg base f cdv A outer s H E) → nmLFitting.Nodup → ∀ ds k0, sp ds k0 →
      XSs K (xLFitting P w K mg base f cdv A outer s H E) (defBody sLFitting) ⟨fun _ => k0 .none, k0, fun _ => False, fun _ => False⟩ (entry nmLFitting ds)) : CLFitting P w K mg base (k + 1) sp := by
  obtain ⟨f, fd, F, hm⟩ := M.fLFitting
  exact CalD.of F hm scLFitting (fun _ _ _ _ _ _ us hl => match us, hl with | [_, _], _ => rfl) len (fun cdv A outer s H E fm => body f cdv A outer s H E fm scLFitting.nd)
abbrev CLGuarded (P : Program) (w : World) (K : PySem.W.Frag) (mg : Str → Option Value) (base : Heap) (k : Nat) (sp : Sc) : Prop := CalD P w K mg base k "_law_guarded" ["_law_well_here", "_law_at", "_law_grant_here"] sp
abbrev xLGuarded (P : Program) (w : World) (K : PySem.W.Frag) (mg : Str → Option Value) (base : Heap) (f : Addr) (cdv : Value) (A : Around) (outer : List Env) (s : Shared) (H : Hp) (E : XK) : Unit → Cx := bodyX P w K mg base nmLGuarded "_law_guarded" (defScope sLGuarded) f cdv A outer s H E
theorem goLGuarded (M : Md w K mg) (len : ∀ ds k0, sp ds k0 → ds.length = 3) (body : ∀ (f : Addr) (cdv : Value) (A : Around) (outer : List Env) (s : Shared) (H : Hp) (E : XK), Fm P w K mg base nmLGuarded (defScope sLGuarded) k (xLGuarded P w K mg base f cdv A outer s H E) → nmLGuarded.Nodup → ∀ ds k0, sp ds k0 →
      XSs K (xLGuarded P w K mg base f cdv A outer s H E) (defBody sLGuarded) ⟨fun _ => k0 .none, k0, fun _ => False, fun _ => False⟩ (entry nmLGuarded ds)) : CLGuarded P w K mg base (k + 1) sp := by
  obtain ⟨f, fd, F, hm⟩ := M.fLGuarded
  exact CalD.of F hm scLGuarded (fun _ _ _ _ _ _ us hl => match us, hl with | [_, _, _], _ => rfl) len (fun cdv A outer s H E fm => body f cdv A outer s H E fm scLGuarded.nd)
abbrev CLMasked (P : Program) (w : World) (K : PySem.W.Frag) (mg : Str → Option Value) (base : Heap) (k : Nat) (sp : Sc) : Prop := CalD P w K mg base k "_law_masked" ["_law_well_here", "_law_at"] sp
abbrev xLMasked (P : Program) (w : World) (K : PySem.W.Frag) (mg : Str → Option Value) (base : Heap) (f : Addr) (cdv : Value) (A : Around) (outer : List Env) (s : Shared) (H : Hp) (E : XK) : Unit → Cx := bodyX P w K mg base nmLMasked "_law_masked" (defScope sLMasked) f cdv A outer s H E
theorem goLMasked (M : Md w K mg) (len : ∀ ds k0, sp ds k0 → ds.length = 2) (body : ∀ (f : Addr) (cdv : Value) (A : Around) (outer : List Env) (s : Shared) (H : Hp) (E : XK), Fm P w K mg base nmLMasked (defScope sLMasked) k (xLMasked P w K mg base f cdv A outer s H E) → nmLMasked.Nodup → ∀ ds k0, sp ds k0 →
      XSs K (xLMasked P w K mg base f cdv A outer s H E) (defBody sLMasked) ⟨fun _ => k0 .none, k0, fun _ => False, fun _ => False⟩ (entry nmLMasked ds)) : CLMasked P w K mg base (k + 1) sp := by
  obtain ⟨f, fd, F, hm⟩ := M.fLMasked
  exact CalD.of F hm scLMasked (fun _ _ _ _ _ _ us hl => match us, hl with | [_, _], _ => rfl) len (fun cdv A outer s H E fm => body f cdv A outer s H E fm scLMasked.nd)
abbrev CLBelow (P : Program) (w : World) (K : PySem.W.Frag) (mg : Str → Option Value) (base : Heap) (k : Nat) (sp : Sc) : Prop := CalD P w K mg base k "_law_below" ["_law_well_here", "_law_at"] sp
abbrev xLBelow (P : Program) (w : World) (K : PySem.W.Frag) (mg : Str → Option Value) (base : Heap) (f : Addr) (cdv : Value) (A : Around) (outer : List Env) (s : Shared) (H : Hp) (E : XK) : Unit → Cx := bodyX P w K mg base nmLBelow "_law_below" (defScope sLBelow) f cdv A outer s H E
theorem goLBelow (M : Md w K mg) (len : ∀ ds k0, sp ds k0 → ds.length = 2) (body : ∀ (f : Addr) (cdv : Value) (A : Around) (outer : List Env) (s : Shared) (H : Hp) (E : XK), Fm P w K mg base nmLBelow (defScope sLBelow) k (xLBelow P w K mg base f cdv A outer s H E) → nmLBelow.Nodup → ∀ ds k0, sp ds k0 →
      XSs K (xLBelow P w K mg base f cdv A outer s H E) (defBody sLBelow) ⟨fun _ => k0 .none, k0, fun _ => False, fun _ => False⟩ (entry nmLBelow ds)) : CLBelow P w K mg base (k + 1) sp := by
  obtain ⟨f, fd, F, hm⟩ := M.fLBelow
  exact CalD.of F hm scLBelow (fun _ _ _ _ _ _ us hl => match us, hl with | [_, _], _ => rfl) len (fun cdv A outer s H E fm => body f cdv A outer s H E fm scLBelow.nd)
abbrev CLOnCells (P : Program) (w : World) (K : PySem.W.Frag) (mg : Str → Option Value) (base : Heap) (k : Nat) (sp : Sc) : Prop := CalD P w K mg base k "_law_on_cells" ["_law_well_here", "_law_at", "_law_t", "_law_kind"] sp
abbrev xLOnCells (P : Program) (w : World) (K : PySem.W.Frag) (mg : Str → Option Value) (base : Heap) (f : Addr) (cdv : Value) (A : Around) (outer : List Env) (s : Shared) (H : Hp) (E : XK) : Unit → Cx := bodyX P w K mg base nmLOnCells "_law_on_cells" (defScope sLOnCells) f cdv A outer s H E
theorem goLOnCells (M : Md w K mg) (len : ∀ ds k0, sp ds k0 → ds.length = 4) (body : ∀ (f : Addr) (cdv : Value) (A : Around) (outer : List Env) (s : Shared) (H : Hp) (E : XK), Fm P w K mg base nmLOnCells (defScope sLOnCells) k (xLOnCells P w K mg base f cdv A outer s H E) → nmLOnCells.Nodup → ∀ ds k0, sp ds k0 →
      XSs K (xLOnCells P w K mg base f cdv A outer s H E) (defBody sLOnCells) ⟨fun _ => k0 .none, k0, fun _ => False, fun _ => False⟩ (entry nmLOnCells ds)) : CLOnCells P w K mg base (k + 1) sp := by
  obtain ⟨f, fd, F, hm⟩ := M.fLOnCells
  exact CalD.of F hm scLOnCells (fun _ _ _ _ _ _ us hl => match us, hl with | [_, _, _, _], _ => rfl) len (fun cdv A outer s H E fm => body f cdv A outer s H E fm scLOnCells.nd)
abbrev CLOnPairs (P : Program) (w : World) (K : PySem.W.Frag) (mg : Str → Option Value) (base : Heap) (k : Nat) (sp : Sc) : Prop := CalD P w K mg base k "_law_on_pairs" ["_law_well_here", "_law_at", "_law_t", "_law_kind"] sp
abbrev xLOnPairs (P : Program) (w : World) (K : PySem.W.Frag) (mg : Str → Option Value) (base : Heap) (f : Addr) (cdv : Value) (A : Around) (outer : List Env) (s : Shared) (H : Hp) (E : XK) : Unit → Cx := bodyX P w K mg base nmLOnPairs "_law_on_pairs" (defScope sLOnPairs) f cdv A outer s H E
theorem goLOnPairs (M : Md w K mg) (len : ∀ ds k0, sp ds k0 → ds.length = 4) (body : ∀ (f : Addr) (cdv : Value) (A : Around) (outer : List Env) (s : Shared) (H : Hp) (E : XK), Fm P w K mg base nmLOnPairs (defScope sLOnPairs) k (xLOnPairs P w K mg base f cdv A outer s H E) → nmLOnPairs.Nodup → ∀ ds k0, sp ds k0 →
      XSs K (xLOnPairs P w K mg base f cdv A outer s H E) (defBody sLOnPairs) ⟨fun _ => k0 .none, k0, fun _ => False, fun _ => False⟩ (entry nmLOnPairs ds)) : CLOnPairs P w K mg base (k + 1) sp := by
  obtain ⟨f, fd, F, hm⟩ := M.fLOnPairs
  exact CalD.of F hm scLOnPairs (fun _ _ _ _ _ _ us hl => match us, hl with | [_, _, _, _], _ => rfl) len (fun cdv A outer s H E fm => body f cdv A outer s H E fm scLOnPairs.nd)
abbrev CLSomeRows (P : Program) (w : World) (K : PySem.W.Frag) (mg : Str → Option Value) (base : Heap) (k : Nat) (sp : Sc) : Prop := CalD P w K mg base k "_law_some_rows" ["_law_well_here", "_law_at"] sp
abbrev xLSomeRows (P : Program) (w : World) (K : PySem.W.Frag) (mg : Str → Option Value) (base : Heap) (f : Addr) (cdv : Value) (A : Around) (outer : List Env) (s : Shared) (H : Hp) (E : XK) : Unit → Cx := bodyX P w K mg base nmLSomeRows "_law_some_rows" (defScope sLSomeRows) f cdv A outer s H E
theorem goLSomeRows (M : Md w K mg) (len : ∀ ds k0, sp ds k0 → ds.length = 2) (body : ∀ (f : Addr) (cdv : Value) (A : Around) (outer : List Env) (s : Shared) (H : Hp) (E : XK), Fm P w K mg base nmLSomeRows (defScope sLSomeRows) k (xLSomeRows P w K mg base f cdv A outer s H E) → nmLSomeRows.Nodup → ∀ ds k0, sp ds k0 →
      XSs K (xLSomeRows P w K mg base f cdv A outer s H E) (defBody sLSomeRows) ⟨fun _ => k0 .none, k0, fun _ => False, fun _ => False⟩ (entry nmLSomeRows ds)) : CLSomeRows P w K mg base (k + 1) sp := by
  obtain ⟨f, fd, F, hm⟩ := M.fLSomeRows
  exact CalD.of F hm scLSomeRows (fun _ _ _ _ _ _ us hl => match us, hl with | [_, _], _ => rfl) len (fun cdv A outer s H E fm => body f cdv A outer s H E fm scLSomeRows.nd)
abbrev CLPiece (P : Program) (w : World) (K : PySem.W.Frag) (mg : Str → Option Value) (base : Heap) (k : Nat) (sp : Sc) : Prop := CalD P w K mg base k "_law_piece" ["_law_well_here", "_law_grant_here", "_law_at", "_law_counters"] sp
abbrev xLPiece (P : Program) (w : World) (K : PySem.W.Frag) (mg : Str → Option Value) (base : Heap) (f : Addr) (cdv : Value) (A : Around) (outer : List Env) (s : Shared) (H : Hp) (E : XK) : Unit → Cx := bodyX P w K mg base nmLPiece "_law_piece" (defScope sLPiece) f cdv A outer s H E
theorem goLPiece (M : Md w K mg) (len : ∀ ds k0, sp ds k0 → ds.length = 4) (body : ∀ (f : Addr) (cdv : Value) (A : Around) (outer : List Env) (s : Shared) (H : Hp) (E : XK), Fm P w K mg base nmLPiece (defScope sLPiece) k (xLPiece P w K mg base f cdv A outer s H E) → nmLPiece.Nodup → ∀ ds k0, sp ds k0 →
      XSs K (xLPiece P w K mg base f cdv A outer s H E) (defBody sLPiece) ⟨fun _ => k0 .none, k0, fun _ => False, fun _ => False⟩ (entry nmLPiece ds)) : CLPiece P w K mg base (k + 1) sp := by
  obtain ⟨f, fd, F, hm⟩ := M.fLPiece
  exact CalD.of F hm scLPiece (fun _ _ _ _ _ _ us hl => match us, hl with | [_, _, _, _], _ => rfl) len (fun cdv A outer s H E fm => body f cdv A outer s H E fm scLPiece.nd)
abbrev CLSieve (P : Program) (w : World) (K : PySem.W.Frag) (mg : Str → Option Value) (base : Heap) (k : Nat) (sp : Sc) : Prop := CalD P w K mg base k "_law_sieve" ["_law_well_here", "_law_grant_here"] sp
abbrev xLSieve (P : Program) (w : World) (K : PySem.W.Frag) (mg : Str → Option Value) (base : Heap) (f : Addr) (cdv : Value) (A : Around) (outer : List Env) (s : Shared) (H : Hp) (E : XK) : Unit → Cx := bodyX P w K mg base nmLSieve "_law_sieve" (defScope sLSieve) f cdv A outer s H E
theorem goLSieve (M : Md w K mg) (len : ∀ ds k0, sp ds k0 → ds.length = 2) (body : ∀ (f : Addr) (cdv : Value) (A : Around) (outer : List Env) (s : Shared) (H : Hp) (E : XK), Fm P w K mg base nmLSieve (defScope sLSieve) k (xLSieve P w K mg base f cdv A outer s H E) → nmLSieve.Nodup → ∀ ds k0, sp ds k0 →
      XSs K (xLSieve P w K mg base f cdv A outer s H E) (defBody sLSieve) ⟨fun _ => k0 .none, k0, fun _ => False, fun _ => False⟩ (entry nmLSieve ds)) : CLSieve P w K mg base (k + 1) sp := by
  obtain ⟨f, fd, F, hm⟩ := M.fLSieve
  exact CalD.of F hm scLSieve (fun _ _ _ _ _ _ us hl => match us, hl with | [_, _], _ => rfl) len (fun cdv A outer s H E fm => body f cdv A outer s H E fm scLSieve.nd)
abbrev CLPutIn (P : Program) (w : World) (K : PySem.W.Frag) (mg : Str → Option Value) (base : Heap) (k : Nat) (sp : Sc) : Prop := CalD P w K mg base k "_law_put_in" ["_law_well_here", "_law_sieve_here"] sp
abbrev xLPutIn (P : Program) (w : World) (K : PySem.W.Frag) (mg : Str → Option Value) (base : Heap) (f : Addr) (cdv : Value) (A : Around) (outer : List Env) (s : Shared) (H : Hp) (E : XK) : Unit → Cx := bodyX P w K mg base nmLPutIn "_law_put_in" (defScope sLPutIn) f cdv A outer s H E
theorem goLPutIn (M : Md w K mg) (len : ∀ ds k0, sp ds k0 → ds.length = 2) (body : ∀ (f : Addr) (cdv : Value) (A : Around) (outer : List Env) (s : Shared) (H : Hp) (E : XK), Fm P w K mg base nmLPutIn (defScope sLPutIn) k (xLPutIn P w K mg base f cdv A outer s H E) → nmLPutIn.Nodup → ∀ ds k0, sp ds k0 →
      XSs K (xLPutIn P w K mg base f cdv A outer s H E) (defBody sLPutIn) ⟨fun _ => k0 .none, k0, fun _ => False, fun _ => False⟩ (entry nmLPutIn ds)) : CLPutIn P w K mg base (k + 1) sp := by
  obtain ⟨f, fd, F, hm⟩ := M.fLPutIn
  exact CalD.of F hm scLPutIn (fun _ _ _ _ _ _ us hl => match us, hl with | [_, _], _ => rfl) len (fun cdv A outer s H E fm => body f cdv A outer s H E fm scLPutIn.nd)
abbrev CLRight (P : Program) (w : World) (K : PySem.W.Frag) (mg : Str → Option Value) (base : Heap) (k : Nat) (sp : Sc) : Prop := CalD P w K mg base k "_law_right" ["_law_well_here"] sp
abbrev xLRight (P : Program) (w : World) (K : PySem.W.Frag) (mg : Str → Option Value) (base : Heap) (f : Addr) (cdv : Value) (A : Around) (outer : List Env) (s : Shared) (H : Hp) (E : XK) : Unit → Cx := bodyX P w K mg base nmLRight "_law_right" (defScope sLRight) f cdv A outer s H E
theorem goLRight (M : Md w K mg) (len : ∀ ds k0, sp ds k0 → ds.length = 1) (body : ∀ (f : Addr) (cdv : Value) (A : Around) (outer : List Env) (s : Shared) (H : Hp) (E : XK), Fm P w K mg base nmLRight (defScope sLRight) k (xLRight P w K mg base f cdv A outer s H E) → nmLRight.Nodup → ∀ ds k0, sp ds k0 →
      XSs K (xLRight P w K mg base f cdv A outer s H E) (defBody sLRight) ⟨fun _ => k0 .none, k0, fun _ => False, fun _ => False⟩ (entry nmLRight ds)) : CLRight P w K mg base (k + 1) sp := by
  obtain ⟨f, fd, F, hm⟩ := M.fLRight
  exact CalD.of F hm scLRight (fun _ _ _ _ _ _ us hl => match us, hl with | [_], _ => rfl) len (fun cdv A outer s H E fm => body f cdv A outer s H E fm scLRight.nd)
abbrev CLaw (P : Program) (w : World) (K : PySem.W.Frag) (mg : Str → Option Value) (base : Heap) (k : Nat) (sp : Sc) : Prop := CalD P w K mg base k "law" ["_law_script"] sp
abbrev xLaw (P : Program) (w : World) (K : PySem.W.Frag) (mg : Str → Option Value) (base : Heap) (f : Addr) (cdv : Value) (A : Around) (outer : List Env) (s : Shared) (H : Hp) (E : XK) : Unit → Cx := bodyX P w K mg base nmLaw "law" (defScope sLaw) f cdv A outer s H E
theorem goLaw (M : Md w K mg) (len : ∀ ds k0, sp ds k0 → ds.length = 1) (body : ∀ (f : Addr) (cdv : Value) (A : Around) (outer : List Env) (s : Shared) (H : Hp) (E : XK), Fm P w K mg base nmLaw (defScope sLaw) k (xLaw P w K mg base f cdv A outer s H E) → nmLaw.Nodup → ∀ ds k0, sp ds k0 →
      XSs K (xLaw P w K mg base f cdv A outer s H E) (defBody sLaw) ⟨fun _ => k0 .none, k0, fun _ => False, fun _ => False⟩ (entry nmLaw ds)) : CLaw P w K mg base (k + 1) sp := by
  obtain ⟨f, fd, F, hm⟩ := M.fLaw
  exact CalD.of F hm scLaw (fun _ _ _ _ _ _ us hl => match us, hl with | [_], _ => rfl) len (fun cdv A outer s H E fm => body f cdv A outer s H E fm scLaw.nd)
end
end K19
set_option maxHeartbeats 4000000
/-! Data that may be compared whole. -/
namespace K19
open PySem PySem.Spec PyProof.Rows L2
/-- may be laid, of depth n at most -/
def Sh (n : Nat) (d : PyData) : Prop := d.canLay0 = true ∧ d.depth ≤ n
theorem Sh.mono {m n : Nat} {d : PyData} (h : Sh m d) (l : m ≤ n) : Sh n d := ⟨h.1, Nat.le_trans h.2 l⟩
theorem sh_int {n : Nat} (i : Int) : Sh n (.int i) := ⟨rfl, Nat.zero_le _⟩
theorem sh_none {n : Nat} : Sh n .none := ⟨rfl, Nat.zero_le _⟩
theorem sh_str {n : Nat} {x : Str} (h : PyData.canLay0 (.str x) = true) : Sh n (.str x) := ⟨h, Nat.zero_le _⟩
theorem shAll {n : Nat} : ∀ {xs : List PyData}, (∀ x ∈ xs, Sh n x) → PyData.canLayAll0 xs = true ∧ PyData.depthAll xs ≤ n
  | [], _ => ⟨by simp [PyData.canLayAll0], by simp [PyData.depthAll]⟩
  | x :: xs, h => by
    obtain ⟨h1, h2⟩ := shAll fun y m => h y (List.mem_cons_of_mem _ m)
    obtain ⟨h3, h4⟩ := h x List.mem_cons_self
    exact ⟨by simp [PyData.canLayAll0, h1, h3], by simp only [PyData.depthAll]; omega⟩
theorem sh_list {n : Nat} {xs : List PyData} (h : ∀ x ∈ xs, Sh n x) : Sh (n + 1) (.list xs) := by
  obtain ⟨h1, h2⟩ := shAll h
  exact ⟨by simpa [PyData.canLay0] using h1, by simp only [PyData.depth]; omega⟩
theorem sh_tup {n : Nat} {xs : List PyData} (h : ∀ x ∈ xs, Sh n x) : Sh (n + 1) (.tuple xs) := by
  obtain ⟨h1, h2⟩ := shAll h
  exact ⟨by simpa [PyData.canLay0] using h1, by simp only [PyData.depth]; omega⟩
theorem Sh.ok {n : Nat} {d : PyData} (h : Sh n d) (l : n ≤ 64) : SeqAt.shaped d = true := by
  unfold SeqAt.shaped
  rw [h.1, Bool.true_and]
  exact decide_eq_true (Nat.le_trans h.2 l)
theorem shl_nil {n : Nat} : ∀ x ∈ ([] : List PyData), Sh n x := fun _ z => nomatch z
theorem shl_cons {n : Nat} {d : PyData} {ds : List PyData} (h : Sh n d) (t : ∀ x ∈ ds, Sh n x) : ∀ x ∈ d :: ds, Sh n x := fun x m => by
  rcases List.mem_cons.mp m with z | m
  · rw [z]
    exact h
  · exact t x m
theorem sh_I {n : Nat} (xs : List Nat) : ∀ x ∈ xs.map I, Sh n x := fun x m => by
  obtain ⟨y, _, rfl⟩ := List.mem_map.mp m
  exact sh_int _
theorem eqv_nil (xs : List PyData) : PyData.eqv (.list xs) (.list []) = xs.isEmpty := by
  cases xs <;> simp [PyData.eqv, PyData.eqvAll]
theorem eqv_nilT (xs : List PyData) : PyData.eqv (.tuple xs) (.tuple []) = xs.isEmpty := by
  cases xs <;> simp [PyData.eqv, PyData.eqvAll]
section
variable {kt : Bool → Prop}
theorem eqK_nil {n : Nat} {xs : List PyData} (h : ∀ x ∈ xs, Sh n x) (l : n ≤ 63) (hk : kt xs.isEmpty) : EqK (.list xs) (.list []) kt :=
  .inr (.inr ⟨(sh_list h).ok (by omega), by decide, by rw [eqv_nil]; exact hk⟩)
theorem eqK_nilT {n : Nat} {xs : List PyData} (h : ∀ x ∈ xs, Sh n x) (l : n ≤ 63) (hk : kt xs.isEmpty) : EqK (.tuple xs) (.tuple []) kt :=
  .inr (.inr ⟨(sh_tup h).ok (by omega), by decide, by rw [eqv_nilT]; exact hk⟩)
theorem eqv_ints : ∀ xs ys : List Int, PyData.eqvAll (xs.map .int) (ys.map .int) = decide (xs = ys)
  | [], [] => by simp [PyData.eqvAll]
  | [], _ :: _ => by simp [PyData.eqvAll]
  | _ :: _, [] => by simp [PyData.eqvAll]
  | x :: xs, y :: ys => by
    simp only [List.map_cons, PyData.eqvAll, PyData.eqv, eqv_ints xs ys]
    by_cases h1 : x = y <;> by_cases h2 : xs = ys <;> simp [h1, h2]
theorem eqK_ints {xs ys : List Int} (hk : kt (decide (xs = ys))) : EqK (.list (xs.map .int)) (.list (ys.map .int)) kt :=
  have sh : ∀ zs : List Int, ∀ x ∈ zs.map PyData.int, Sh 0 x := fun zs x m => by
    obtain ⟨y, _, rfl⟩ := List.mem_map.mp m
    exact sh_int _
  .inr (.inr ⟨(sh_list (sh xs)).ok (by omega), (sh_list (sh ys)).ok (by omega), by
    show kt (PyData.eqvAll _ _)
    rw [eqv_ints]
    exact hk⟩)
variable {ι : Type} {K : PySem.W.Frag} {X : ι → Cx} {δ : DS} {scope : Scope} {elt tg : Expr} {ifs : List Expr}
/-- a comprehension over the data of l's items -/
theorem LcK.fa {α : Type} {vs : List Nat} {kl : List PyData → Prop} (l : List α) (e : α → PyData) (g : α → Option PyData) (hl : l.length ≤ 1000000)
    (h : ∀ x ∈ l, XG K (blkF X scope) tg (e x) (wipeD δ vs) vs fun δ' => XTs K (blkF X scope) ifs δ' fun z => if z = true then XE K (blkF X scope) elt δ' fun y => Dt y ∧ g x = some y else g x = none)
    (hk : kl (l.filterMap g)) : LcK K X scope elt tg ifs δ vs (l.map e) kl := by
  refine ⟨fun i acc => acc = (l.take i).filterMap g, rfl, fun i d acc hd ea => ?_, fun acc ea => ?_⟩
  · rw [List.getElem?_map] at hd
    cases hx : l[i]? with
    | none =>
      rw [hx] at hd
      cases hd
    | some x =>
      rw [hx] at hd
      cases hd
      have hi : i < l.length := by
        by_cases h : i < l.length
        · exact h
        · rw [List.getElem?_eq_none (by omega)] at hx
          cases hx
      have tk : l.take (i + 1) = l.take i ++ [x] := by
        rw [List.take_succ, hx]
        rfl
      have ea : acc = (l.take i).filterMap g := ea
      refine ⟨?_, fun wa G H σ v R wd en r hq => h x (List.mem_of_getElem? hx) wa G H σ v R wd en r fun σ' δ' en' l' o' h' => hq σ' δ' en' l' o' ?_⟩
      · rw [ea]
        have := List.length_filterMap_le g (l.take i)
        rw [List.length_take] at this
        omega
      · intro wa G H σ Q wd en hq
        refine h' wa G H σ Q wd en fun z G' H' l' hz => hq z G' H' l' ?_
        dsimp only at hz ⊢
        cases z with
        | true =>
          rw [if_pos rfl] at hz ⊢
          refine hz.imp fun y ⟨t, e2⟩ => ⟨t, ?_⟩
          show acc ++ [y] = (l.take (i + 1)).filterMap g
          rw [tk, List.filterMap_append, ea]
          simp [e2]
        | false =>
          rw [if_neg Bool.false_ne_true] at hz ⊢
          show acc = (l.take (i + 1)).filterMap g
          rw [tk, List.filterMap_append, ea]
          simp [hz]
  · have ea : acc = (l.take (l.map e).length).filterMap g := ea
    rw [List.length_map, List.take_length] at ea
    rw [ea]
    exact hk
theorem LcK.mp {α : Type} {vs : List Nat} {kl : List PyData → Prop} (l : List α) (e : α → PyData) (f : α → PyData) (hl : l.length ≤ 1000000)
    (h : ∀ x ∈ l, XG K (blkF X scope) tg (e x) (wipeD δ vs) vs fun δ' => XTs K (blkF X scope) ifs δ' fun z => if z = true then XE K (blkF X scope) elt δ' fun y => Dt y ∧ some (f x) = some y else some (f x) = none)
    (hk : kl (l.map f)) : LcK K X scope elt tg ifs δ vs (l.map e) kl :=
  LcK.fa l e (fun x => some (f x)) hl h (by
    rw [show l.filterMap (fun x => some (f x)) = l.map f from by
      induction l with
      | nil => rfl
      | cons a l ih => simp]
    exact hk)
/-- .. of which only this is told: all its items are of p -/
theorem LcK.al {vs : List Nat} {ds : List PyData} {kl : List PyData → Prop} (p : PyData → Prop) (hl : ds.length ≤ 1000000)
    (h : ∀ d ∈ ds, XG K (blkF X scope) tg d (wipeD δ vs) vs fun δ' => XTs K (blkF X scope) ifs δ' fun z => if z = true then XE K (blkF X scope) elt δ' fun y => Dt y ∧ p y else True)
    (hk : ∀ acc, acc.length ≤ ds.length → (∀ y ∈ acc, p y) → kl acc) : LcK K X scope elt tg ifs δ vs ds kl := by
  refine ⟨fun i acc => acc.length ≤ i ∧ i ≤ ds.length ∧ ∀ y ∈ acc, p y, ⟨Nat.le_refl _, Nat.zero_le _, fun _ z => nomatch z⟩, fun i d acc hd ⟨h1, h2, h3⟩ => ?_, fun acc ⟨h1, _, h3⟩ => hk acc h1 h3⟩
  have hi : i < ds.length := by
    by_cases h : i < ds.length
    · exact h
    · rw [List.getElem?_eq_none (by omega)] at hd
      cases hd
  refine ⟨by omega, fun wa G H σ v R wd en r hq => h d (List.mem_of_getElem? hd) wa G H σ v R wd en r fun σ' δ' en' l' o' h' => hq σ' δ' en' l' o' ?_⟩
  intro wa G H σ Q wd en hq
  refine h' wa G H σ Q wd en fun z G' H' l' hz => hq z G' H' l' ?_
  dsimp only at hz ⊢
  cases z with
  | true =>
    rw [if_pos rfl] at hz ⊢
    refine hz.imp fun y ⟨t, e2⟩ => ⟨t, by rw [List.length_append]; exact Nat.succ_le_succ h1, hi, fun q hq => ?_⟩
    rcases List.mem_append.mp hq with h | h
    · exact h3 q h
    · rw [List.mem_singleton.mp h]
      exact e2
  | false =>
    rw [if_neg Bool.false_ne_true]
    exact ⟨Nat.le_succ_of_le h1, hi, h3⟩
theorem XS.im {st : Stmt} {E : DEnds} {s : Sta} (q : Sta → Prop) (h : XS K X st ⟨q, E.rt, E.bk, E.ct⟩ s) (f : ∀ s', q s' → E.nx s') : XS K X st E s := fun wa G0 H0 Gb σ G H D I d =>
  h wa G0 H0 Gb σ G H D I ⟨fun s' σ' G' H' I' z => d.nx s' σ' G' H' I' (f s' z), d.bk, d.ct, d.rt⟩
/-- targets = a value that is no display of locals -/
theorem XS.as {e : Expr} {pos : Pos} {E : DEnds} (h : XE K X e δ fun d => XG K X tg d δ (List.range 64) fun δ' => E.nx (δ', none))
    (hs : ∀ i, swapsWithSole [tg] e pos.line (X i).env = pure false) (hw : ∀ i, swappedStores [tg] e (X i).env = pure none) (h1 : ∀ i, (assignEach [tg] (X i).env).map (·.2) = [assign tg (X i).env]) :
    XS K X (.Assign [tg] e pos) E (δ, none) := XS.asg (js := List.range 64) (fun _ _ z => by cases z) h hs hw h1
theorem ws_at {r : Run} (hr : r.Ok) {b : Nat} (h : b < 8) : ∃ x, r.ws[b]? = some x ∧ x < 65536 ∧ (r.ws.map I)[b]? = some (I x) := by
  have hb : b < r.ws.length := by rw [hr.ws8]; exact h
  have e := List.getElem?_eq_getElem hb
  exact ⟨_, e, hr.wsw _ (List.getElem_mem hb), by rw [List.getElem?_map, e]; rfl⟩
theorem ca_at {r : Run} (hr : r.Ok) {b : Nat} (h : b < 16) : ∃ x, r.ca[b]? = some x ∧ x < 65536 ∧ (r.ca.map I)[b]? = some (I x) := by
  have hb : b < r.ca.length := by rw [hr.ca16]; exact h
  have e := List.getElem?_eq_getElem hb
  exact ⟨_, e, hr.caw _ (List.getElem_mem hb), by rw [List.getElem?_map, e]; rfl⟩
theorem pk_at {r : Run} (hr : r.Ok) {b : Nat} (h : b < r.pk.length) : ∃ x, r.pk[b]? = some x ∧ x < 256 ∧ (r.pk.map I)[b]? = some (I x) := by
  have e := List.getElem?_eq_getElem h
  exact ⟨_, e, hr.pkb _ (List.getElem_mem h), by rw [List.getElem?_map, e]; rfl⟩
theorem I_at {us : List Nat} {b x : Nat} (h : us[b]? = some x) : (us.map I)[b]? = some (I x) := by rw [List.getElem?_map, h]; rfl
end
end K19
set_option maxHeartbeats 4000000
/-! enumerate of a tuple; zip of a text and a tuple. -/
namespace K19
open PySem PySem.Spec PyProof.Rows L2
open PySem.Sem (wp)
/-! ### enumerate(v) begins -/
theorem enum1_meets {v : Value} {ob : Obj} {S : Heap → Prop} (B : Begins v ob S) :
    Meets (Builtin.«enumerate.__new__» ⟨[.type "enumerate", v], []⟩) (fun _ R u => S u.heap ∧
      R (.ok (.ret (.ref (u.heap.push ob).objs.size))) { u with heap := (u.heap.push ob).push { cls := .type "enumerate", data := .fields #[.none, .bool false, .ref u.heap.objs.size, rawInt 0, .none, .none] } }) :=
  .of_wp fun P w A R u hyp => by
    obtain ⟨hp, g, d, tk, os⟩ := u
    obtain ⟨hs, hyp⟩ := hyp
    have hsub := sub_enumerate
    have step : ∀ {A' : Around} {E : Value → Shared → Prop} {Q : Value → Shared → Prop}, Q (.ref hp.objs.size) ⟨hp.push ob, g, d, tk, os⟩ → wpAny (model P w) A' (pyIter v) Q E ⟨hp, g, d, tk, os⟩ := fun q => B.iter P w _ _ ⟨hp, g, d, tk, os⟩ _ hs q
    wp_walk using step
    refine wpAny_stack_any fun st => wpAny_pure ?_
    split
    · rename_i c _ _ _ _ _
      cases (c == Value.type "enumerate")
      · wp_walk using step
        exact ⟨_, rfl, hyp⟩
      · wp_walk using step
        exact ⟨_, rfl, hyp⟩
    · wp_walk using step
      exact ⟨_, rfl, hyp⟩
theorem enum1_call {P : Program} {w : World} {A : Around} {E : Value → Shared → Prop} {u : Shared} {v : Value} {ob : Obj} {S : Heap → Prop} {Q : Value → Shared → Prop} (B : Begins v ob S) (hs : S u.heap)
    (hq : ∀ g, IsEnum g (u.heap.objs.size + 1) u.heap.objs.size 0 .none → g.get? u.heap.objs.size = some ob → g.objs.size = u.heap.objs.size + 2 → (∀ b o, u.heap.get? b = some o → g.get? b = some o) → Q (.ref (u.heap.objs.size + 1)) { u with heap := g }) :
    wpAny (model P w) A (call (.type "enumerate") [v]) Q E u := by
  refine callType_new F.called_enumerate (by decide) (F.typeCall_enumerate_1 _) (F.newCall_enumerate_1 _) (fun x => F.args_object_init_2 x _) F.entry_enumerate_new (enum1_meets B) ⟨hs, ?_⟩
  have sz : (u.heap.push ob).objs.size = u.heap.objs.size + 1 := Heap.size_push ..
  show _ ∧ _
  rw [sz]
  have en : IsEnum ((u.heap.push ob).push { cls := .type "enumerate", data := .fields #[.none, .bool false, .ref u.heap.objs.size, rawInt 0, .none, .none] }) (u.heap.objs.size + 1) u.heap.objs.size 0 .none := by
    have z := Heap.get?_push_size (u.heap.push ob) (o := { cls := .type "enumerate", data := .fields #[.none, .bool false, .ref u.heap.objs.size, rawInt 0, .none, .none] }) rfl
    rw [sz] at z
    exact z
  exact ⟨⟨_, en, rfl⟩, hq _ en (Heap.get?_push_of_some _ (Heap.get?_push_size _ B.free)) (by rw [Heap.size_push, sz]) fun b o x => Heap.get?_push_of_some _ (Heap.get?_push_of_some _ x)⟩

/-- the tuple at a, each item in a new pair with its place -/
def Itn (K : PySem.W.Frag) (a : Addr) : It where
  go := fun i H => ∃ (ys : List V) (y : V), SqT K H a ys ∧ ys[i]? = some y
  yld := fun i H v G => ∃ T y, v = .ref T ∧ H T = none ∧ G = upd H T (.tup [.int (i : Nat), y]) ∧ ∀ ys, SqT K H a ys → ys[i]? = some y
  stop := fun i H => ∃ ys : List V, SqT K H a ys ∧ ys.length = i
theorem turn_en {P : Program} {w : World} {K : PySem.W.Frag} {elts : List Expr} {kk : Nat} {tp : Pos} (a e it : Addr) :
    Turn P w K (.Tuple elts kk tp) (Itn K a) [e, it] e (fun i h => (∃ old, IsEnum h e it ((i : Nat) : Int) old) ∧ h.IsTupleIter it a i ∧ e ≠ it) where
  mem := List.mem_cons_self
  obj := fun i h ⟨⟨old, he⟩, ⟨o, ho, hc, hd⟩, _⟩ b hb => by
    rcases List.mem_cons.mp hb with z | hb
    · exact ⟨_, by rw [z]; exact he, fun v q => by cases q⟩
    · rw [List.mem_singleton.mp hb]
      exact ⟨o, ho, fun v q => by rw [hd] at q; cases q⟩
  keep := fun i h h' ⟨⟨old, he⟩, hi, hne⟩ k => ⟨⟨old, k e List.mem_cons_self _ he⟩, hi.at fun o q => k it (List.mem_cons_of_mem _ List.mem_cons_self) o q, hne⟩
  item := by
    intro X hP hw hK hc i pins s σ H E I hf st hg
    subst hP hw hK
    obtain ⟨⟨old, he⟩, hit, hne⟩ := st
    obtain ⟨ys, y, sq, hy⟩ := hg
    obtain ⟨its, rv, tu, _⟩ := I.tuple sq
    obtain ⟨u, hu, ru⟩ := rv.get hy
    have ht : s.heap.IsTuple a its.toArray := tu
    have ea : e ≠ a := fun z => by
      obtain ⟨o, ho, hc, _⟩ := ht
      rw [← z, he] at ho
      cases ho
      exact absurd (show Value.type "enumerate" = Value.type "tuple" from hc) (by decide)
    have ia : a ≠ it := fun z => by
      obtain ⟨o, ho, hc, _⟩ := ht
      obtain ⟨o2, ho2, hc2, _⟩ := hit
      rw [z, ho2] at ho
      cases ho
      rw [hc2] at hc
      exact absurd hc (by decide)
    have le : e < s.heap.objs.size := Heap.lt_size he
    have li : it < s.heap.objs.size := by
      obtain ⟨_, q, _⟩ := hit
      exact Heap.lt_size q
    have hlt : i < its.toArray.size := by
      have hu : its[i]? = some u := hu
      by_cases h : i < its.length
      · simpa using h
      · rw [List.getElem?_eq_none (by omega)] at hu
        cases hu
    have D := Draws.tuple (prog := X.prog) (w := X.w) (A := X.A.in1) (show X.A.in1.handled = none from I.ok.hd hc) it a ia its.toArray
    refine wpAny_pyNext_enum_itemD D he ⟨hit, ht⟩ hlt hne (by simp [hne, ea]) fun x g tk px ho st' hT sz hk => ?_
    have px : its.toArray[i]? = some x := px
    rw [show its.toArray[i]? = its[i]? from by simp] at px
    rw [hu] at px
    cases px
    refine ⟨_, rfl, wpAny_letOwnedTupleGo_enum (s := { s with heap := g, toks := tk + 1 }) ho fun g2 he2 sb => ?_⟩
    have hT2 : g2.get? s.heap.objs.size = some { cls := .type "tuple", data := .seq #[.int i tk, u] } := (sb.2 _ (Nat.ne_of_gt le)).trans hT
    have new : ObjOk X.prog X.w (upd H s.heap.objs.size (.tup [.int (i : Nat), y])) g2 s.heap.objs.size (.tup [.int (i : Nat), y]) :=
      ⟨by show 2 ≤ sizeLine; decide, [.int i tk, u], .cons ⟨_, rfl⟩ (.cons ru .nil), ⟨_, hT2, rfl, _, rfl⟩⟩
    have J : Inv X pins σ (upd H s.heap.objs.size (.tup [.int (i : Nat), y])) { s with heap := g2, toks := tk + 1 } :=
      I.turnedNew (ch := [e, it]) (fun b ob hb q => (sb.2 b fun z => hb (by simp [z])).trans (hk b ob (fun z => hb (by simp [z])) (fun z => hb (by simp [z])) q)) hf (Nat.le_refl _) new
    refine ⟨.ref s.heap.objs.size, _, J, rfl, ⟨_, y, rfl, I.hok.fresh (Nat.le_refl _), rfl, fun zs hz => by rw [I.tuple_inj hz sq]; exact hy⟩, ⟨⟨u, ?_⟩, st'.1.at fun o q => (sb.2 it (Ne.symm hne)).trans q, hne⟩, fun b hb => ?_⟩
    · rw [show ((i + 1 : Nat) : Int) = (i : Int) + 1 by omega]
      exact he2
    · have hb' : b < s.heap.objs.size := by
        rcases List.mem_cons.mp hb with z | hb
        · rw [z]
          exact le
        · rw [List.mem_singleton.mp hb]
          exact li
      rw [upd_ne (Nat.ne_of_lt hb')]
      exact (hf b hb).1
  done := by
    intro X hP hw hK hc i pins s σ H E I hf st hg
    subst hP hw hK
    obtain ⟨⟨old, he⟩, hit, hne⟩ := st
    obtain ⟨ys, sq, hl⟩ := hg
    obtain ⟨its, rv, tu, _⟩ := I.tuple sq
    have ht : s.heap.IsTuple a its.toArray := tu
    have ia : a ≠ it := fun z => by
      obtain ⟨o, ho, hc, _⟩ := ht
      obtain ⟨o2, ho2, hc2, _⟩ := hit
      rw [z, ho2] at ho
      cases ho
      rw [hc2] at hc
      exact absurd hc (by decide)
    have D := Draws.tuple (prog := X.prog) (w := X.w) (A := X.A.in1) (show X.A.in1.handled = none from I.ok.hd hc) it a ia its.toArray
    obtain ⟨f0, f1, f2, f3, f4, f5⟩ := hf it (by simp)
    have sz : its.toArray.size = i := by
      have := rv.length
      simp
      omega
    exact wpAny_pyNext_enum_endD D he (by rw [sz]; exact ⟨hit, ht⟩) fun g eb => ⟨rfl, I.turned (t' := s.toks) (fun b o hb q => eb b o hb q) f0 f1 f3 f4 f5⟩
  self := fun A i s Q E st h => let ⟨⟨_, he⟩, _⟩ := st; wpAny_pyIter_enum he h
def iEn (K : PySem.W.Frag) (ta : TA) : TI := fun σ H R => ta σ H fun vs H1 => ∃ a ys, vs = [.ref a] ∧ SqT K H1 a ys ∧ R (Itn K a) H1
theorem pi_en {X : Cx} {e : Expr} {ta : TA} {p pos tp : Pos} {elts : List Expr} {kk : Nat} (hg : Gl X "enumerate") (hm : X.mg "enumerate" = none) (ha : PA X [e] ta) (hs : starEach [e] X.env = [(false, eval e X.env)]) :
    PI X (.Tuple elts kk tp) (.Call (.Name "enumerate" p) [e] [] pos) (iEn X.K ta) := by
  refine ⟨fun pins s σ H R I h => ?_⟩
  refine Call_ (ld_blt I hg hm boot_enumerate (PyProof.Rows.callWith_type1 (thn (ha.run pos pins s σ H _ I h) fun us u ⟨vs, G, J, r, q⟩ => ?_) hs rfl))
  obtain ⟨a, ys, rfl, sq, q⟩ := q
  cases r with
  | cons r rr =>
    cases rr
    cases r
    obtain ⟨its, rv, tu, _⟩ := J.tuple sq
    refine enum1_call (begins_tuple a its.toArray) (show u.heap.IsTuple a its.toArray from tu) fun g he hi sz hk => wpAny_pyIter_enum he ?_
    have J2 : Inv X pins σ G { u with heap := g } := J.kept (t' := u.toks) hk
    refine ⟨u.heap.objs.size + 1, [u.heap.objs.size + 1, u.heap.objs.size], _, _, G, rfl, J2, turn_en a (u.heap.objs.size + 1) u.heap.objs.size, ⟨⟨.none, he⟩, ⟨_, hi, rfl, rfl⟩, Nat.succ_ne_self _⟩, fun b hb => ?_, q⟩
    have hle : u.heap.objs.size ≤ b := by
      rcases List.mem_cons.mp hb with z | hb
      · rw [z]
        exact Nat.le_succ _
      · rw [List.mem_singleton.mp hb]
        exact Nat.le_refl _
    exact J.fpOk hle (J.hok.fresh hle)

/-! ### zip of a text and a tuple -/
def Itq (K : PySem.W.Frag) (x : Str) (b : Addr) : It where
  go := fun i H => i < x.cps.size ∧ ∃ (ys : List V) (y : V), SqT K H b ys ∧ ys[i]? = some y
  yld := fun i H v G => ∃ T y c, v = .ref T ∧ H T = none ∧ x.cps[i]? = some c ∧ G = upd H T (.tup [.str ⟨#[c]⟩, y]) ∧ ∀ ys, SqT K H b ys → ys[i]? = some y
  stop := fun i H => x.cps.size = i ∧ ∃ ys : List V, SqT K H b ys ∧ ys.length = i
structure ZApart (z TI TO i1 i2 b : Addr) : Prop where
  nd : [z, TI, TO, i1, i2].Nodup
  nb : ∀ q ∈ [z, TI, TO, i1, i2], q ≠ b
theorem ZApart.sep {z TI TO i1 i2 b : Addr} (D : ZApart z TI TO i1 i2 b) : ZipSep2 z TI TO i1 i2 [i1] [i2, b] := by
  have h := D.nd
  simp only [List.nodup_cons, List.mem_cons, List.mem_nil_iff, or_false, not_or, List.nodup_nil, and_true] at h
  obtain ⟨⟨h1, h2, h3, h4⟩, ⟨h5, h6, h7⟩, ⟨h8, h9⟩, h10, _⟩ := h
  have b1 := D.nb z (by simp)
  have b3 := D.nb TO (by simp)
  have b4 := D.nb i1 (by simp)
  exact ⟨Ne.symm h1, Ne.symm h2, h5, h6, by simp, by simp [h3], by simp [h8], h7, by simp, by simp [h4, b1], by simp [h9, b3], by simp [h10, b4], by simp [Ne.symm h10]⟩
theorem turn_zq {P : Program} {w : World} {K : PySem.W.Frag} {elts : List Expr} {kk : Nat} {tp : Pos} {x : Str} {t : Tok} {b z TI TO i1 i2 : Addr} (D : ZApart z TI TO i1 i2 b) :
    Turn P w K (.Tuple elts kk tp) (Itq K x b) [z, TI, TO, i1, i2] z (fun i h => IsZip h z TI TO .none ∧ IsTupOf2 h TI (.ref i1) (.ref i2) ∧ (∃ u v, IsTupOf2 h TO u v) ∧ h.IsStrIter i1 (strIterType x) x t i ∧ h.IsTupleIter i2 b i) where
  mem := List.mem_cons_self
  obj := fun i h ⟨hz, hTI, ⟨u, v, hTO⟩, ⟨o1, e1, _, d1⟩, ⟨o2, e2, _, d2⟩⟩ c hc => by
    simp only [List.mem_cons, List.mem_nil_iff, or_false] at hc
    rcases hc with q | q | q | q | q
    · exact ⟨_, by rw [q]; exact hz, fun v q => by cases q⟩
    · exact ⟨_, by rw [q]; exact hTI, fun v q => by cases q⟩
    · exact ⟨_, by rw [q]; exact hTO, fun v q => by cases q⟩
    · exact ⟨o1, by rw [q]; exact e1, fun v q => by rw [d1] at q; cases q⟩
    · exact ⟨o2, by rw [q]; exact e2, fun v q => by rw [d2] at q; cases q⟩
  keep := fun i h h' ⟨hz, hTI, ⟨u, v, hTO⟩, ⟨o1, e1, r1⟩, h2⟩ k =>
    ⟨k z (by simp) _ hz, k TI (by simp) _ hTI, ⟨u, v, k TO (by simp) _ hTO⟩, ⟨o1, k i1 (by simp) _ e1, r1⟩, h2.at fun o q => k i2 (by simp) o q⟩
  item := by
    intro X hP hw hK hc i pins s σ H E I hf st hg
    subst hP hw hK
    obtain ⟨hz, hTI, ⟨u0, v0, hTO⟩, h1, h2⟩ := st
    obtain ⟨hlt, ys, y, sq, hy⟩ := hg
    obtain ⟨its, rv, tu, _⟩ := I.tuple sq
    obtain ⟨u, hu, ru⟩ := rv.get hy
    have ht : s.heap.IsTuple b its.toArray := tu
    have hlt2 : i < its.toArray.size := by
      have hu : its[i]? = some u := hu
      by_cases h : i < its.length
      · simpa using h
      · rw [List.getElem?_eq_none (by omega)] at hu
        cases hu
    have hh : X.A.in1.handled = none := I.ok.hd hc
    have D1 := Draws.text (prog := X.prog) (w := X.w) hh i1 x t
    have D2 := Draws.tuple (prog := X.prog) (w := X.w) hh i2 b (Ne.symm (D.nb i2 (by simp))) its.toArray
    have lz : z < s.heap.objs.size := Heap.lt_size hz
    refine wpAny_pyNext_zipD2_item D.sep D1 D2 hz hTI hTO h1 ⟨h2, ht⟩ hlt hlt2 fun v1 v2 g tk p1 p2 z' TO' h1' h2' hT sz hk => ?_
    obtain ⟨c, tc, hcx, rfl⟩ := p1
    have p2 : its.toArray[i]? = some v2 := p2
    rw [show its.toArray[i]? = its[i]? from by simp] at p2
    rw [hu] at p2
    cases p2
    refine ⟨_, rfl, wpAny_letOwnedTupleGo_zip (s := { s with heap := g, toks := tk }) z' fun g2 z2 sb => ?_⟩
    have hT2 : g2.get? s.heap.objs.size = some { cls := .type "tuple", data := .seq #[.str ⟨#[c]⟩ tc, u] } := (sb.2 _ (Nat.ne_of_gt lz)).trans hT
    have new : ObjOk X.prog X.w (upd H s.heap.objs.size (.tup [.str ⟨#[c]⟩, y])) g2 s.heap.objs.size (.tup [.str ⟨#[c]⟩, y]) :=
      ⟨by show 2 ≤ sizeLine; decide, [.str ⟨#[c]⟩ tc, u], .cons ⟨_, rfl⟩ (.cons ru .nil), ⟨_, hT2, rfl, _, rfl⟩⟩
    have ap := D.nd
    simp only [List.nodup_cons, List.mem_cons, List.mem_nil_iff, or_false, not_or, List.nodup_nil, and_true] at ap
    obtain ⟨⟨a1, a2, a3, a4⟩, ⟨a5, a6, a7⟩, ⟨a8, a9⟩, a10, _⟩ := ap
    have J : Inv X pins σ (upd H s.heap.objs.size (.tup [.str ⟨#[c]⟩, y])) { s with heap := g2, toks := tk } :=
      I.turnedNew (ch := [z, TI, TO, i1, i2]) (fun q o hb e => (sb.2 q fun w => hb (by simp [w])).trans (hk q o (fun w => hb (by simp [w])) (fun w => hb (by simp [w])) (fun w => hb (by simp [w])) (fun w => hb (by simp [w])) e)) hf (Nat.le_refl _) new
    refine ⟨.ref s.heap.objs.size, _, J, rfl, ⟨_, y, c, rfl, I.hok.fresh (Nat.le_refl _), hcx, rfl, fun zs hz => by rw [I.tuple_inj hz sq]; exact hy⟩, ⟨z2, ?_, ⟨_, _, (sb.2 _ (Ne.symm a2)).trans TO'⟩, ?_, h2'.1.at fun o q => (sb.2 i2 (Ne.symm a4)).trans q⟩, fun q hq => ?_⟩
    · exact (sb.2 _ (Ne.symm a1)).trans (hk _ _ (Ne.symm a1) a5 a6 a7 hTI)
    · obtain ⟨o1, e1, r1⟩ := h1'
      exact ⟨o1, (sb.2 i1 (Ne.symm a3)).trans e1, r1⟩
    · have lt : q < s.heap.objs.size := by
        simp only [List.mem_cons, List.mem_nil_iff, or_false] at hq
        rcases hq with w | w | w | w | w
        · rw [w]; exact lz
        · rw [w]; exact Heap.lt_size hTI
        · rw [w]; exact Heap.lt_size hTO
        · obtain ⟨_, e1, _⟩ := h1
          rw [w]; exact Heap.lt_size e1
        · obtain ⟨_, e1, _⟩ := h2
          rw [w]; exact Heap.lt_size e1
      rw [upd_ne (Nat.ne_of_lt lt)]
      exact (hf q hq).1
  done := by
    intro X hP hw hK hc i pins s σ H E I hf st hg
    subst hP hw hK
    obtain ⟨hz, hTI, ⟨u0, v0, hTO⟩, h1, h2⟩ := st
    obtain ⟨hx, ys, sq, hl⟩ := hg
    obtain ⟨its, rv, tu, _⟩ := I.tuple sq
    have ht : s.heap.IsTuple b its.toArray := tu
    have hh : X.A.in1.handled = none := I.ok.hd hc
    have D1 := Draws.text (prog := X.prog) (w := X.w) hh i1 x t
    have D2 := Draws.tuple (prog := X.prog) (w := X.w) hh i2 b (Ne.symm (D.nb i2 (by simp))) its.toArray
    have sz : its.toArray.size = i := by
      have := rv.length
      simp
      omega
    exact wpAny_pyNext_zipD2_end D.sep D1 D2 hz hTI hTO h1 ⟨h2, ht⟩ (Nat.le_of_eq hx.symm) (Nat.le_of_eq sz.symm) (.inl hx.symm) fun g tk hk => ⟨rfl, I.turnedL (ch := [z, TI, TO, i1, i2]) (fun q o hb e => hk q o (fun w => hb (by simp [w])) (fun w => hb (by simp [w])) (fun w => hb (by simp [w])) (fun w => hb (by simp [w])) e) hf⟩
  self := fun A i s Q E st h => wpAny_pyIter_zip st.1 h
theorem nod5 (n : Nat) : [n + 4, n + 2, n + 3, n, n + 1].Nodup := by
  refine List.nodup_cons.mpr ⟨fun h => ?_, List.nodup_cons.mpr ⟨fun h => ?_, List.nodup_cons.mpr ⟨fun h => ?_, List.nodup_cons.mpr ⟨fun h => ?_, List.nodup_cons.mpr ⟨fun h => ?_, List.nodup_nil⟩⟩⟩⟩⟩
  · rw [List.mem_cons, List.mem_cons, List.mem_cons, List.mem_singleton] at h
    omega
  · rw [List.mem_cons, List.mem_cons, List.mem_singleton] at h
    omega
  · rw [List.mem_cons, List.mem_singleton] at h
    omega
  · rw [List.mem_singleton] at h
    omega
  · cases h
theorem ne5 (n b : Nat) (h : b < n) : ∀ q ∈ [n + 4, n + 2, n + 3, n, n + 1], q ≠ b := fun q hq => by
  simp only [List.mem_cons, List.mem_nil_iff, or_false] at hq
  omega
theorem le5 (n : Nat) : ∀ q ∈ [n + 4, n + 2, n + 3, n, n + 1], n ≤ q := fun q hq => by
  simp only [List.mem_cons, List.mem_nil_iff, or_false] at hq
  omega
def iZq (K : PySem.W.Frag) (ta : TA) : TI := fun σ H R => ta σ H fun vs H1 => ∃ x b ys, vs = [.str x, .ref b] ∧ SqT K H1 b ys ∧ R (Itq K x b) H1
theorem pi_zq {X : Cx} {e e2 : Expr} {ta : TA} {p pos tp : Pos} {elts : List Expr} {kk : Nat} (hg : Gl X "zip") (hm : X.mg "zip" = none) (ha : PA X [e, e2] ta)
    (hs : starEach [e, e2] X.env = (false, eval e X.env) :: starEach [e2] X.env) (hpl : (backTo pos (starEach [e2] X.env)).any (·.1) = false) :
    PI X (.Tuple elts kk tp) (.Call (.Name "zip" p) [e, e2] [] pos) (iZq X.K ta) := by
  refine ⟨fun pins s σ H R I h => ?_⟩
  refine Call_ (ld_blt I hg hm PyProof.Rows.boot_zip (PyProof.Rows.callWith_type1 (thn (ha.run pos pins s σ H _ I h) fun us u ⟨vs, G, J, r, q⟩ => ?_) hs hpl))
  obtain ⟨x, b, ys, rfl, sq, q⟩ := q
  cases r with
  | cons r1 rr =>
    cases rr with
    | cons r2 rr =>
      cases rr
      obtain ⟨t, rfl⟩ := r1
      cases r2
      obtain ⟨its, rv, tu, _⟩ := J.tuple sq
      have hb : b < u.heap.objs.size := by
        obtain ⟨_, e, _⟩ := id tu
        exact Heap.lt_size e
      refine zip_begins2 (begins_text x t) (begins_tuple b its.toArray) True.intro (show u.heap.IsTuple b its.toArray from tu) fun g hz hTI hTO o1 o2 sz hk => wpAny_pyIter_zip hz ?_
      have J2 : Inv X pins σ G { u with heap := g } := J.kept (t' := u.toks) hk
      refine ⟨u.heap.objs.size + 4, [u.heap.objs.size + 4, u.heap.objs.size + 2, u.heap.objs.size + 3, u.heap.objs.size, u.heap.objs.size + 1], _, _, G, rfl, J2, turn_zq (x := x) (t := t) (b := b) ⟨nod5 _, ne5 _ _ hb⟩, ⟨hz, hTI, ⟨_, _, hTO⟩, ⟨_, o1, rfl, rfl⟩, ⟨_, o2, rfl, rfl⟩⟩, fun c hc => ?_, q⟩
      have hle : u.heap.objs.size ≤ c := le5 _ c hc
      exact J.fpOk hle (J.hok.fresh hle)

/-! ### over data -/
section
variable {ι : Type} {K : PySem.W.Frag} {X : ι → Cx} {e a b : Expr} {δ : DS} {p pos tp : Pos} {P : Program} {w : World} {mg : Str → Option Value} {base : Heap} {N : List Str} {sc : Scope} {n : Nat} {elts : List Expr} {kk : Nat} {ks : List PyData → Prop}
def enD (ds : List PyData) : List PyData := ds.zipIdx.map fun q => .tuple [I q.2, q.1]
theorem enD_get {ds : List PyData} {i : Nat} {d : PyData} (h : (enD ds)[i]? = some d) : ∃ x, ds[i]? = some x ∧ d = .tuple [I i, x] := by
  unfold enD at h
  rw [List.getElem?_map, List.getElem?_zipIdx] at h
  cases hx : ds[i]? with
  | none =>
    rw [hx] at h
    cases h
  | some x =>
    rw [hx] at h
    cases h
    exact ⟨x, rfl, by simp⟩
theorem enD_len (ds : List PyData) : (enD ds).length = ds.length := by simp [enD]
theorem XI.en (f : Fm P w K mg base N sc n X) (hg : sc.names.lookup ("enumerate" : Str) = some .globalImplicit) (hm : mg "enumerate" = none) (h : XE K X e δ fun d => ∃ ds, d = .tuple ds ∧ ks (enD ds))
    (hs : ∀ i, starEach (e :: []) (X i).env = (false, eval e (X i).env) :: starEach [] (X i).env) : XI K X (.Tuple elts kk tp) (.Call (.Name "enumerate" p) [e] [] pos) δ ks := fun wa G H σ R wd en hq =>
  ⟨iEn K (tCons (rE X e) tNil), fun i => by
    have z := pi_en (X := X i) (elts := elts) (kk := kk) (tp := tp) (p := p) (pos := pos) (f.gl hg i) (by rw [f.mg_ i]; exact hm) (pa_cons (rE_ok X e i) pa_nil (hs i)) (hs i)
    rw [f.K_ i] at z
    exact z, h wa G H σ _ wd en fun v d G1 H1 l r ⟨ds, ed, hk⟩ => by
      subst ed
      obtain ⟨q, vs, rfl, g, t⟩ := rp_tuple r
      refine ⟨q, vs, rfl, SqT.of (l.wd.sub _ _ g), hq _ _ G1 H1 l ⟨fun j d G2 H2 hd wd2 sm => ?_, fun G2 H2 wd2 sm => ?_⟩ hk⟩
      · obtain ⟨x, hx, rfl⟩ := enD_get hd
        obtain ⟨v, hv, rv⟩ := dqAll_get t hx
        have sq : SqT K H2 q vs := SqT.of (wd2.sub _ _ (sm _ _ g))
        refine ⟨⟨vs, v, sq, hv⟩, fun y H3 ⟨T, z, e1, e2, e3, e4⟩ => ?_⟩
        have e5 := e4 vs sq
        rw [hv] at e5
        cases e5
        subst e1 e3
        exact ⟨_, Le.new wd2 e2, .inl (.tup upd_same (.cons (.int _) (.cons (dq_mono (sm.trans (same_new (wd2.fresh e2) _)) _ _ rv) .nil)))⟩
      · rw [enD_len, ← dqAll_len t]
        exact ⟨vs, SqT.of (wd2.sub _ _ (sm _ _ g)), rfl⟩⟩
def zqD (x : Str) (ds : List PyData) : List PyData := (x.cps.toList.zip ds).map fun q => .tuple [.str ⟨#[q.1]⟩, q.2]
theorem XI.zq (f : Fm P w K mg base N sc n X) (hg : sc.names.lookup ("zip" : Str) = some .globalImplicit) (hm : mg "zip" = none) (h : XE K X a δ fun d1 => XE K X b δ fun d2 => ∃ (x : Str) (ds : List PyData), d1 = .str x ∧ d2 = .tuple ds ∧ x.cps.size = ds.length ∧ ks (zqD x ds))
    (hs : ∀ i, starEach [a, b] (X i).env = (false, eval a (X i).env) :: starEach [b] (X i).env) (hs2 : ∀ i, starEach [b] (X i).env = (false, eval b (X i).env) :: starEach [] (X i).env) (hpl : ∀ i, (backTo pos (starEach [b] (X i).env)).any (·.1) = false) :
    XI K X (.Tuple elts kk tp) (.Call (.Name "zip" p) [a, b] [] pos) δ ks := fun wa G H σ R wd en hq =>
  ⟨iZq K (tCons (rE X a) (tCons (rE X b) tNil)), fun i => by
    have z := pi_zq (X := X i) (elts := elts) (kk := kk) (tp := tp) (p := p) (pos := pos) (f.gl hg i) (by rw [f.mg_ i]; exact hm) (pa_cons (rE_ok X a i) (pa_cons (rE_ok X b i) pa_nil (hs2 i)) (hs i)) (hs i) (hpl i)
    rw [f.K_ i] at z
    exact z, h wa G H σ _ wd en fun v1 d1 G1 H1 l1 r1 h => h wa G1 H1 σ _ l1.wd (en.mono (l1.same wd)) fun v2 d2 G2 H2 l2 r2 ⟨x, ds, e1, e2, hl, hk⟩ => by
      subst e1 e2
      rw [rp_str r1]
      obtain ⟨q, vs, rfl, g, t⟩ := rp_tuple r2
      have lz : (zqD x ds).length = ds.length := by simp [zqD, hl]
      refine ⟨x, q, vs, rfl, SqT.of (l2.wd.sub _ _ g), hq _ _ G2 H2 (l1.trans l2) ⟨fun j d G3 H3 hd wd3 sm => ?_, fun G3 H3 wd3 sm => ?_⟩ hk⟩
      · have hj : j < ds.length := by
          by_cases h : j < ds.length
          · exact h
          · rw [List.getElem?_eq_none (by omega)] at hd
            cases hd
        obtain ⟨v, hv, rv⟩ := dqAll_get t (List.getElem?_eq_getElem hj)
        have sq : SqT K H3 q vs := SqT.of (wd3.sub _ _ (sm _ _ g))
        refine ⟨⟨by omega, vs, v, sq, hv⟩, fun y H4 ⟨T, z, c, e1, e2, ec, e3, e4⟩ => ?_⟩
        have e5 := e4 vs sq
        rw [hv] at e5
        cases e5
        subst e1 e3
        have ed : d = .tuple [.str ⟨#[c]⟩, ds[j]] := by
          unfold zqD at hd
          rw [List.getElem?_map] at hd
          have : (x.cps.toList.zip ds)[j]? = some (c, ds[j]) := by
            rw [List.getElem?_zip_eq_some]
            exact ⟨by rw [Array.getElem?_toList]; exact ec, List.getElem?_eq_getElem hj⟩
          rw [this] at hd
          cases hd
          rfl
        rw [ed]
        exact ⟨_, Le.new wd3 e2, .inl (.tup upd_same (.cons (.str _) (.cons (dq_mono (sm.trans (same_new (wd3.fresh e2) _)) _ _ rv) .nil)))⟩
      · rw [lz]
        exact ⟨hl, vs, SqT.of (wd3.sub _ _ (sm _ _ g)), dqAll_len t⟩⟩
end
end K19
set_option maxHeartbeats 4000000
/-! Flaws and bounds, plainly. -/
namespace K19
open PySem PySem.Spec PyProof.Rows L2
def Row.ag : Row → Option (Nat × Nat × Nat)
  | .again l m d => some (l, m, d)
  | _ => none
def Row.bg (l : Nat) : Row → Bool
  | .begin l2 => decide (l2 = l)
  | _ => false
/-- l, m, d of the loop that ends at p -/
def agAt (rs : List Row) (p : Nat) : Option (Nat × Nat × Nat) := rs[p]?.bind Row.ag
def ags (rs : List Row) : List Nat := (List.range rs.length).filter fun p => (agAt rs p).isSome
def nestB (d p d2 p2 : Nat) : Bool := decide (d ≤ d2 ∧ p2 ≤ p) || decide (d2 ≤ d ∧ p ≤ p2)
def crossB (l d p l2 d2 p2 : Nat) : Bool := decide (d ≤ p2 ∧ d2 ≤ p) && (decide (l2 = l) || !nestB d p d2 p2)
/-- the loop that ends at q crosses that of p -/
def crossQ (rs : List Row) (l d p q : Nat) : Bool := match agAt rs q with
  | some (l2, _, d2) => decide (q ≠ p) && (decide (d2 ≤ q) && crossB l d p l2 d2 q)
  | none => false
def crossed (rs : List Row) (l d p : Nat) : Bool := (ags rs).any (crossQ rs l d p)
def beginIn (rs : List Row) (l d p : Nat) : Bool := (List.range' d (p + 1 - d)).any fun q => match rs[q]? with
  | some w => w.bg l
  | none => false
def flawR (rs : List Row) (p : Nat) : Row → List Str
  | .jump d | .when _ _ _ d | .whenn _ _ _ d => if p < d ∧ d < rs.length then [] else ["far"]
  | .again l _ d => if p < d then ["back"] else if beginIn rs l d p = true then ["begin"] else if crossed rs l d p = true then ["crossed"] else []
  | _ => []
def flawAt (rs : List Row) (p : Nat) : List Str := match rs[p]? with
  | some w => flawR rs p w
  | none => []
def flawsOf (rs : List Row) : List (Nat × Str) := (List.range rs.length).flatMap fun p => (flawAt rs p).map fun s => (p, s)
def flawD (q : Nat × Str) : PyData := .tuple [I q.1, .str q.2]
def flawsD (rs : List Row) : PyData := .tuple ((flawsOf rs).map flawD)
/-- the loop that ends at p counts for q -/
def oftenF (rs : List Row) (q : Nat) (acc p : Nat) : Nat := match agAt rs p with
  | some (_, m, d) => if d ≤ q ∧ q ≤ p then acc * (m + 1) else acc
  | none => acc
def often (rs : List Row) (q : Nat) : Nat := (ags rs).foldl (oftenF rs q) 1
def boundOf (rs : List Row) : Nat := ((List.range rs.length).map (often rs)).sum
theorem ags_ok {rs : List Row} {p : Nat} (h : p ∈ ags rs) : p < rs.length ∧ ∃ l m d, rs[p]? = some (.again l m d) ∧ agAt rs p = some (l, m, d) := by
  obtain ⟨h1, h2⟩ := List.mem_filter.mp h
  refine ⟨List.mem_range.mp h1, ?_⟩
  unfold agAt at h2 ⊢
  cases e : rs[p]? with
  | none =>
    rw [e] at h2
    cases h2
  | some w =>
    rw [e] at h2
    cases w with
    | again l m d => exact ⟨l, m, d, rfl, rfl⟩
    | _ => cases h2
theorem ags_len (rs : List Row) : (ags rs).length ≤ rs.length := by
  have := List.length_filter_le (fun p => (agAt rs p).isSome) (List.range rs.length)
  rw [List.length_range] at this
  exact this

/-! ### segments -/
theorem rngD_seg (d n : Nat) : rngD (d : Int) n = (List.range' d n).map I := by
  unfold rngD
  rw [List.range'_eq_map_range, List.map_map]
  apply List.map_congr_left
  intro j _
  show PyData.int _ = PyData.int _
  congr 1
theorem mem_seg {d n x : Nat} : x ∈ List.range' d n ↔ d ≤ x ∧ x < d + n := by rw [List.mem_range'_1]
theorem seg_filter {a n b m : Nat} (h1 : a ≤ b) (h2 : b + m ≤ a + n) : (List.range' a n).filter (fun x => decide (x ∈ List.range' b m)) = List.range' b m := by
  have e : List.range' a n = List.range' a (b - a) ++ (List.range' b m ++ List.range' (b + m) (a + n - b - m)) := by
    rw [List.range'_append_1, show List.range' b (m + (a + n - b - m)) = List.range' (a + (b - a)) (m + (a + n - b - m)) by rw [show a + (b - a) = b by omega], List.range'_append_1]
    congr 1
    omega
  rw [e, List.filter_append, List.filter_append]
  rw [List.filter_eq_nil_iff.mpr (fun x hx => by
    rw [mem_seg] at hx
    simp only [mem_seg, decide_eq_true_eq]
    omega), List.filter_eq_self.mpr (fun x hx => decide_eq_true hx), List.filter_eq_nil_iff.mpr (fun x hx => by
    rw [mem_seg] at hx
    simp only [mem_seg, decide_eq_true_eq]
    omega)]
  simp
/-- what the law finds in common of two loops -/
def both (d p d2 p2 : Nat) : List Nat := (List.range' d (p + 1 - d)).filter fun x => decide (x ∈ List.range' d2 (p2 + 1 - d2))
theorem both_nil {d p d2 p2 : Nat} (h : d ≤ p) : both d p d2 p2 = [] ↔ ¬ (d2 ≤ p2 ∧ d ≤ p2 ∧ d2 ≤ p) := by
  unfold both
  rw [List.filter_eq_nil_iff]
  constructor
  · intro hx z
    refine hx (max d d2) (mem_seg.mpr (by omega)) (decide_eq_true (mem_seg.mpr (by omega)))
  · intro hz x hx hy
    have hx := mem_seg.mp hx
    have hy := mem_seg.mp (of_decide_eq_true hy)
    omega
theorem both_own {d p d2 p2 : Nat} (h : d ≤ p) (h2 : d2 ≤ p2) : both d p d2 p2 = List.range' d (p + 1 - d) ↔ (d2 ≤ d ∧ p ≤ p2) := by
  unfold both
  rw [List.filter_eq_self]
  constructor
  · intro hx
    have a := mem_seg.mp (of_decide_eq_true (hx d (mem_seg.mpr (by omega))))
    have b := mem_seg.mp (of_decide_eq_true (hx p (mem_seg.mpr (by omega))))
    omega
  · intro hz x hx
    have hx := mem_seg.mp hx
    exact decide_eq_true (mem_seg.mpr (by omega))
theorem both_far {d p d2 p2 : Nat} (h : d ≤ p) (h2 : d2 ≤ p2) : both d p d2 p2 = List.range' d2 (p2 + 1 - d2) ↔ (d ≤ d2 ∧ p2 ≤ p) := by
  constructor
  · intro e
    have sub : ∀ x, x ∈ List.range' d2 (p2 + 1 - d2) → x ∈ List.range' d (p + 1 - d) := fun x hx => by
      rw [← e] at hx
      exact (List.mem_filter.mp hx).1
    have a := mem_seg.mp (sub d2 (mem_seg.mpr (by omega)))
    have b := mem_seg.mp (sub p2 (mem_seg.mpr (by omega)))
    omega
  · intro hz
    exact seg_filter (by omega) (by omega)
end K19
set_option maxHeartbeats 4000000
/-! A sieve without flaws ends within its bound. -/
namespace K19
open PySem PySem.Spec
section
variable (rs : List Row)
def stG (p : Nat) (c : List Nat) (q : Nat) (acc : Nat × Nat) (e : Nat) : Nat × Nat := match agAt rs e with
  | some (l, m, d) => if d ≤ q ∧ q ≤ e then (acc.1 * (m + 1), if d ≤ p ∧ p ≤ e then acc.2 + (m - c.getD l 0) * acc.1 else acc.2 * (m + 1)) else acc
  | none => acc
def val (p : Nat) (c : List Nat) (q : Nat) : List Nat → Nat × Nat
  | [] => (1, if p ≤ q then 1 else 0)
  | e :: r => stG rs p c q (val p c q r) e
/-- the loops of the list: each with its row, none crosses another at q's -/
structure Lp (r : List Nat) : Prop where
  ag : ∀ e ∈ r, ∃ l m d, agAt rs e = some (l, m, d) ∧ d ≤ e
  nest : ∀ e1 ∈ r, ∀ e2 ∈ r, ∀ l1 m1 d1 l2 m2 d2, agAt rs e1 = some (l1, m1, d1) → agAt rs e2 = some (l2, m2, d2) → e1 ≠ e2 → d1 ≤ e2 → d2 ≤ e1 → l1 ≠ l2 ∧ ((d1 ≤ d2 ∧ e2 ≤ e1) ∨ (d2 ≤ d1 ∧ e1 ≤ e2))
  desc : r.Pairwise (fun a b => b < a)
end
variable {rs : List Row} {p p' q : Nat} {c c' : List Nat}
theorem Lp.tail {e : Nat} {r : List Nat} (h : Lp rs (e :: r)) : Lp rs r :=
  ⟨fun x m => h.ag x (List.mem_cons_of_mem _ m), fun x m y n => h.nest x (List.mem_cons_of_mem _ m) y (List.mem_cons_of_mem _ n), (List.pairwise_cons.mp h.desc).2⟩
theorem Lp.lt {e : Nat} {r : List Nat} (h : Lp rs (e :: r)) : ∀ x ∈ r, x < e := (List.pairwise_cons.mp h.desc).1
theorem val_fst : ∀ r : List Nat, (val rs p c q r).1 = (val rs p' c' q r).1
  | [] => rfl
  | e :: r => by
    unfold val stG
    rw [val_fst r]
    cases agAt rs e with
    | none => exact val_fst r
    | some t =>
      obtain ⟨l, m, d⟩ := t
      dsimp only
      split
      · rfl
      · exact val_fst r
theorem val_pos : ∀ r : List Nat, 1 ≤ (val rs p c q r).1
  | [] => Nat.le_refl _
  | e :: r => by
    have ih := val_pos r
    unfold val stG
    cases agAt rs e with
    | none => exact ih
    | some t =>
      obtain ⟨l, m, d⟩ := t
      dsimp only
      split
      · exact Nat.le_trans ih (Nat.le_mul_of_pos_right _ (Nat.succ_pos _))
      · exact ih
theorem val_le : ∀ r : List Nat, (val rs p c q r).2 ≤ (val rs p c q r).1
  | [] => by
    show (if p ≤ q then 1 else 0) ≤ 1
    split <;> omega
  | e :: r => by
    have ih := val_le r
    unfold val stG
    cases agAt rs e with
    | none => exact ih
    | some t =>
      obtain ⟨l, m, d⟩ := t
      dsimp only
      have keep := ih
      generalize (val rs p c q r).1 = w at ih ⊢
      generalize (val rs p c q r).2 = s at ih ⊢
      split
      · dsimp only
        split
        · have h1 : (m - c.getD l 0) * w ≤ m * w := Nat.mul_le_mul_right _ (Nat.sub_le _ _)
          have h2 : w * (m + 1) = m * w + w := by rw [Nat.mul_succ, Nat.mul_comm]
          omega
        · exact Nat.mul_le_mul_right _ ih
      · exact keep
theorem val_z : ∀ r : List Nat, (∀ e ∈ r, ∀ l m d, agAt rs e = some (l, m, d) → d ≤ q → q ≤ e → ¬ (d ≤ p ∧ p ≤ e)) → (val rs p c q r).2 = if p ≤ q then (val rs p c q r).1 else 0
  | [], _ => rfl
  | e :: r, h => by
    have ih := val_z r fun x m => h x (List.mem_cons_of_mem _ m)
    have h := h e List.mem_cons_self
    unfold val stG
    cases ea : agAt rs e with
    | none => exact ih
    | some t =>
      obtain ⟨l, m, d⟩ := t
      have h := h l m d ea
      dsimp only
      split
      · rename_i hq
        rw [if_neg (h hq.1 hq.2), ih]
        split
        · rfl
        · rw [Nat.zero_mul]
      · exact ih
/-- the row goes on forward -/
theorem val_fwd (hp : p < p') : ∀ r : List Nat, Lp rs r → (∀ e ∈ r, ∀ l m d, agAt rs e = some (l, m, d) → d ≤ p → p' ≤ e → c'.getD l 0 = c.getD l 0) → (val rs p' c' q r).2 ≤ (val rs p c q r).2 ∧ (q = p → (val rs p' c' q r).2 < (val rs p c q r).2)
  | [], _, _ => by
    show (if p' ≤ q then 1 else 0) ≤ (if p ≤ q then 1 else 0) ∧ (q = p → (if p' ≤ q then 1 else 0) < (if p ≤ q then 1 else 0))
    constructor
    · split <;> split <;> omega
    · intro e
      rw [if_neg (by omega), if_pos (by omega)]
      decide
  | e :: r, hL, hc => by
    obtain ⟨ih1, ih2⟩ := val_fwd hp r hL.tail fun x m => hc x (List.mem_cons_of_mem _ m)
    have hlt := hL.lt
    obtain ⟨l, m, d, ea, hde⟩ := hL.ag e List.mem_cons_self
    have hcc := hc e List.mem_cons_self l m d ea
    have fe := val_fst (rs := rs) (p := p') (c := c') (p' := p) (c' := c) (q := q) r
    have le := val_le (rs := rs) (p := p') (c := c') (q := q) r
    have z' : (e < p' → q < p' → (val rs p' c' q r).2 = 0) := fun h1 h2 => by
      rw [val_z r fun x hx l2 m2 d2 _ _ _ hh => by
        have := hlt x hx
        omega, if_neg (by omega)]
    have zp : (p < d → d ≤ q → q ≤ e → (val rs p c q r).2 = (val rs p c q r).1) := fun h1 h2 h3 => by
      rw [val_z r fun x hx l2 m2 d2 ex hq1 hq2 hh => by
        have hx2 := hlt x hx
        obtain ⟨_, hn⟩ := hL.nest e List.mem_cons_self x (List.mem_cons_of_mem _ hx) l m d l2 m2 d2 ea ex (by omega) (by omega) (by omega)
        omega, if_pos (by omega)]
    have keep := And.intro ih1 ih2
    unfold val stG
    rw [ea]
    dsimp only
    rw [fe] at le ⊢
    by_cases hq : d ≤ q ∧ q ≤ e
    case neg =>
      rw [if_neg hq, if_neg hq]
      exact keep
    clear keep
    generalize (val rs p c q r).1 = w at le zp ⊢
    generalize (val rs p c q r).2 = s at ih1 ih2 zp ⊢
    generalize (val rs p' c' q r).2 = s' at ih1 ih2 le z' ⊢
    · rw [if_pos hq, if_pos hq]
      dsimp only
      by_cases h1 : d ≤ p ∧ p ≤ e
      · rw [if_pos h1]
        by_cases h2 : d ≤ p' ∧ p' ≤ e
        · rw [if_pos h2, hcc h1.1 h2.2]
          exact ⟨by omega, fun z => by have := ih2 z; omega⟩
        · rw [if_neg h2, z' (by omega) (by omega), Nat.zero_mul]
          exact ⟨Nat.zero_le _, fun z => by have := ih2 z; omega⟩
      · rw [if_neg h1]
        by_cases h2 : d ≤ p' ∧ p' ≤ e
        · rw [if_pos h2]
          have e1 := zp (by omega) hq.1 hq.2
          have a1 : (m - c'.getD l 0) * w ≤ m * w := Nat.mul_le_mul_right _ (Nat.sub_le _ _)
          have a2 : s * (m + 1) = m * s + s := by rw [Nat.mul_succ, Nat.mul_comm]
          have a3 : m * s = m * w := by rw [e1]
          exact ⟨by omega, fun z => by omega⟩
        · rw [if_neg h2]
          exact ⟨Nat.mul_le_mul_right _ ih1, fun z => by omega⟩
/-- the loop at e0 goes back to its start: seen from within -/
theorem val_back {e0 l0 m0 d0 x : Nat} (e0a : agAt rs e0 = some (l0, m0, d0)) (hx : c[l0]? = some x) (hxm : x < m0) (hq1 : d0 ≤ q) (hq2 : q ≤ e0) : ∀ r : List Nat, Lp rs r → e0 ∈ r →
    (val rs d0 (c.set l0 (x + 1)) q r).2 ≤ (val rs e0 c q r).2 ∧ (q = e0 → (val rs d0 (c.set l0 (x + 1)) q r).2 < (val rs e0 c q r).2)
  | [], _, h => nomatch h
  | e :: r, hL, hin => by
    have hlt := hL.lt
    obtain ⟨l, m, d, ea, hde⟩ := hL.ag e List.mem_cons_self
    have fe := val_fst (rs := rs) (p := d0) (c := c.set l0 (x + 1)) (p' := e0) (c' := c) (q := q) r
    have le := val_le (rs := rs) (p := d0) (c := c.set l0 (x + 1)) (q := q) r
    have po := val_pos (rs := rs) (p := e0) (c := c) (q := q) r
    have hl0 : l0 < c.length := by
      by_cases h : l0 < c.length
      · exact h
      · rw [List.getElem?_eq_none (by omega)] at hx
        cases hx
    have gx : c.getD l0 0 = x := by rw [List.getD_eq_getElem?_getD, hx]; rfl
    have gs : (c.set l0 (x + 1)).getD l0 0 = x + 1 := by rw [List.getD_eq_getElem?_getD, List.getElem?_set_self hl0]; rfl
    by_cases he : e = e0
    · subst he
      rw [e0a] at ea
      cases ea
      have zz : (val rs e c q r).2 = if e ≤ q then (val rs e c q r).1 else 0 := val_z r fun y hy l2 m2 d2 _ _ _ hh => by
        have := hlt y hy
        omega
      unfold val stG
      rw [e0a]
      dsimp only
      rw [fe] at le ⊢
      generalize (val rs e c q r).1 = w at le zz po ⊢
      generalize (val rs e c q r).2 = s at zz ⊢
      generalize (val rs d0 (c.set l0 (x + 1)) q r).2 = s' at le ⊢
      have i1 : d0 ≤ q ∧ q ≤ e := ⟨hq1, hq2⟩
      have i2 : d0 ≤ d0 ∧ d0 ≤ e := ⟨Nat.le_refl _, hde⟩
      have i3 : d0 ≤ e ∧ e ≤ e := ⟨hde, Nat.le_refl _⟩
      rw [if_pos i1, if_pos i1]
      dsimp only
      rw [if_pos i2, if_pos i3, gx, gs]
      have a1 : (m0 - x) * w = (m0 - (x + 1)) * w + w := by
        rw [show m0 - x = (m0 - (x + 1)) + 1 by omega, Nat.succ_mul]
      constructor
      · omega
      · intro z
        rw [if_pos (by omega)] at zz
        omega
    · have hin2 : e0 ∈ r := (List.mem_cons.mp hin).resolve_left fun z => he z.symm
      have hee := hlt e0 hin2
      obtain ⟨ih1, ih2⟩ := val_back e0a hx hxm hq1 hq2 r hL.tail hin2
      have hn := hL.nest e List.mem_cons_self e0 hin l m d l0 m0 d0 ea e0a he
      have keep := And.intro ih1 ih2
      unfold val stG
      rw [ea]
      dsimp only
      rw [fe]
      by_cases hq : d ≤ q ∧ q ≤ e
      case neg =>
        rw [if_neg hq, if_neg hq]
        exact keep
      clear keep
      generalize (val rs e0 c q r).1 = w
      generalize (val rs e0 c q r).2 = s at ih1 ih2 ⊢
      generalize (val rs d0 (c.set l0 (x + 1)) q r).2 = s' at ih1 ih2 ⊢
      · obtain ⟨n1, n2⟩ := hn (by omega) (by omega)
        have gl : (c.set l0 (x + 1)).getD l 0 = c.getD l 0 := by
          rw [List.getD_eq_getElem?_getD, List.getElem?_set_ne (Ne.symm n1), ← List.getD_eq_getElem?_getD]
        rw [if_pos hq, if_pos hq]
        dsimp only
        rw [if_pos ⟨by omega, by omega⟩, if_pos ⟨by omega, by omega⟩, gl]
        exact ⟨by omega, fun z => by have := ih2 z; omega⟩
/-- .. seen from without -/
theorem val_out {e0 l0 m0 d0 y : Nat} (e0a : agAt rs e0 = some (l0, m0, d0)) (hde0 : d0 ≤ e0) (hq : ¬ (d0 ≤ q ∧ q ≤ e0)) {L : List Nat} (hL : Lp rs L) (h0 : e0 ∈ L) : ∀ r : List Nat, (∀ x ∈ r, x ∈ L) → (val rs d0 (c.set l0 y) q r).2 = (val rs e0 c q r).2
  | [], _ => by
    show (if d0 ≤ q then 1 else 0) = (if e0 ≤ q then 1 else 0)
    by_cases h : e0 ≤ q
    · rw [if_pos h, if_pos (by omega)]
    · rw [if_neg h, if_neg (by omega)]
  | e :: r, hs => by
    have ih := val_out (y := y) e0a hde0 hq hL h0 r fun x m => hs x (List.mem_cons_of_mem _ m)
    have fe := val_fst (rs := rs) (p := d0) (c := c.set l0 y) (p' := e0) (c' := c) (q := q) r
    obtain ⟨l, m, d, ea, hde⟩ := hL.ag e (hs e List.mem_cons_self)
    unfold val stG
    rw [ea]
    dsimp only
    rw [fe, ih]
    by_cases hh : d ≤ q ∧ q ≤ e
    · rw [if_pos hh, if_pos hh]
      dsimp only
      have hne : e ≠ e0 := fun z => by
        subst z
        rw [e0a] at ea
        cases ea
        exact hq hh
      have hn := hL.nest e (hs e List.mem_cons_self) e0 h0 l m d l0 m0 d0 ea e0a hne
      by_cases h1 : d ≤ e0 ∧ e0 ≤ e
      · obtain ⟨n1, n2⟩ := hn (by omega) (by omega)
        have gl : (c.set l0 y).getD l 0 = c.getD l 0 := by
          rw [List.getD_eq_getElem?_getD, List.getElem?_set_ne (Ne.symm n1), ← List.getD_eq_getElem?_getD]
        rw [if_pos h1, if_pos ⟨by omega, by omega⟩, gl]
      · rw [if_neg h1, if_neg fun h2 => ?_]
        obtain ⟨n1, n2⟩ := hn (by omega) (by omega)
        omega
    · rw [if_neg hh, if_neg hh]
      exact ih
/-! ### the sums -/
def FlawFree (rs : List Row) : Prop := ∀ p, p < rs.length → flawAt rs p = []
theorem free_of (h : (flawsOf rs).isEmpty = true) : FlawFree rs := fun p hp => by
  have e : flawsOf rs = [] := List.isEmpty_iff.mp h
  unfold flawsOf at e
  have z := (List.flatMap_eq_nil_iff.mp e) p (List.mem_range.mpr hp)
  exact List.map_eq_nil_iff.mp z
theorem ag_row {e l m d : Nat} (h : agAt rs e = some (l, m, d)) : rs[e]? = some (.again l m d) := by
  unfold agAt at h
  cases ee : rs[e]? with
  | none =>
    rw [ee] at h
    cases h
  | some w =>
    rw [ee] at h
    cases w with
    | again l2 m2 d2 =>
      cases h
      rfl
    | _ => cases h
theorem ag_mem {e l m d : Nat} (h : agAt rs e = some (l, m, d)) : e < rs.length ∧ e ∈ ags rs := by
  have h2 := ag_row h
  have hl : e < rs.length := by
    by_cases z : e < rs.length
    · exact z
    · rw [List.getElem?_eq_none (by omega)] at h2
      cases h2
  exact ⟨hl, List.mem_filter.mpr ⟨List.mem_range.mpr hl, by rw [h]; rfl⟩⟩
theorem ag_free (hf : FlawFree rs) {e l m d : Nat} (h : agAt rs e = some (l, m, d)) : d ≤ e ∧ beginIn rs l d e = false ∧ crossed rs l d e = false := by
  obtain ⟨hl, _⟩ := ag_mem h
  have z := hf e hl
  unfold flawAt at z
  rw [ag_row h] at z
  have z : (if e < d then ["back"] else if beginIn rs l d e = true then ["begin"] else if crossed rs l d e = true then ["crossed"] else [] : List Str) = [] := z
  by_cases h1 : e < d
  · rw [if_pos h1] at z
    cases z
  rw [if_neg h1] at z
  by_cases h2 : beginIn rs l d e = true
  · rw [if_pos h2] at z
    cases z
  rw [if_neg h2] at z
  by_cases h3 : crossed rs l d e = true
  · rw [if_pos h3] at z
    cases z
  exact ⟨by omega, by simpa using h2, by simpa using h3⟩
theorem begin_free (hf : FlawFree rs) {e l m d x : Nat} (h : agAt rs e = some (l, m, d)) (h1 : d ≤ x) (h2 : x ≤ e) : rs[x]? ≠ some (.begin l) := fun z => by
  obtain ⟨hd, hb, _⟩ := ag_free hf h
  unfold beginIn at hb
  rw [List.any_eq_false] at hb
  have y := hb x (mem_seg.mpr (by omega))
  rw [z] at y
  exact y (by simp [Row.bg])
theorem lp_of (hf : FlawFree rs) : Lp rs (ags rs).reverse := by
  refine ⟨fun e he => ?_, fun e1 h1 e2 h2 l1 m1 d1 l2 m2 d2 a1 a2 hne ho1 ho2 => ?_, ?_⟩
  · obtain ⟨_, l, m, d, _, a⟩ := ags_ok (List.mem_reverse.mp he)
    exact ⟨l, m, d, a, (ag_free hf a).1⟩
  · obtain ⟨hd1, _, hc⟩ := ag_free hf a1
    obtain ⟨hd2, _, _⟩ := ag_free hf a2
    unfold crossed at hc
    rw [List.any_eq_false] at hc
    have y := hc e2 (List.mem_reverse.mp h2)
    have y : crossQ rs l1 d1 e1 e2 = false := by simpa using y
    unfold crossQ at y
    rw [a2] at y
    have y : (decide (e2 ≠ e1) && (decide (d2 ≤ e2) && crossB l1 d1 e1 l2 d2 e2)) = false := y
    rw [decide_eq_true (Ne.symm hne), decide_eq_true hd2, Bool.true_and, Bool.true_and] at y
    unfold crossB at y
    rw [decide_eq_true (show d1 ≤ e2 ∧ d2 ≤ e1 from ⟨ho1, ho2⟩), Bool.true_and, Bool.or_eq_false_iff] at y
    obtain ⟨y1, y2⟩ := y
    have y1 := of_decide_eq_false y1
    have y2 : nestB d1 e1 d2 e2 = true := by simpa using y2
    unfold nestB at y2
    rw [Bool.or_eq_true] at y2
    refine ⟨fun z => y1 z.symm, ?_⟩
    rcases y2 with z | z
    · exact .inl (of_decide_eq_true z)
    · exact .inr (of_decide_eq_true z)
  · rw [List.pairwise_reverse]
    unfold ags
    exact List.Pairwise.filter _ (List.pairwise_lt_range)
def Phi (rs : List Row) (p : Nat) (c : List Nat) : Nat := ((List.range rs.length).map fun q => (val rs p c q (ags rs).reverse).2).sum
theorem sum_le {f g : Nat → Nat} : ∀ L : List Nat, (∀ q ∈ L, f q ≤ g q) → (L.map f).sum ≤ (L.map g).sum
  | [], _ => Nat.le_refl _
  | a :: L, h => by
    have := sum_le L fun q m => h q (List.mem_cons_of_mem _ m)
    have := h a List.mem_cons_self
    simp only [List.map_cons, List.sum_cons]
    omega
theorem sum_lt {f g : Nat → Nat} {p : Nat} : ∀ L : List Nat, (∀ q ∈ L, f q ≤ g q) → p ∈ L → f p < g p → (L.map f).sum + 1 ≤ (L.map g).sum
  | [], _, h, _ => nomatch h
  | a :: L, h, hp, hl => by
    have h0 := h a List.mem_cons_self
    have h1 := sum_le L fun q m => h q (List.mem_cons_of_mem _ m)
    simp only [List.map_cons, List.sum_cons]
    rcases List.mem_cons.mp hp with e | hp
    · subst e
      omega
    · have := sum_lt L (fun q m => h q (List.mem_cons_of_mem _ m)) hp hl
      omega
theorem phi_fwd (hf : FlawFree rs) (hp : p < rs.length) (hpp : p < p') (hc : ∀ e, ∀ l m d, agAt rs e = some (l, m, d) → d ≤ p → p' ≤ e → c'.getD l 0 = c.getD l 0) : Phi rs p' c' + 1 ≤ Phi rs p c := by
  have key : ∀ q, (val rs p' c' q (ags rs).reverse).2 ≤ (val rs p c q (ags rs).reverse).2 ∧ (q = p → (val rs p' c' q (ags rs).reverse).2 < (val rs p c q (ags rs).reverse).2) := fun q => val_fwd hpp _ (lp_of hf) fun e _ l m d a => hc e l m d a
  exact sum_lt _ (fun q _ => (key q).1) (List.mem_range.mpr hp) ((key p).2 rfl)
theorem phi_pos (hf : FlawFree rs) (hp : p < rs.length) : 1 ≤ Phi rs p c := by
  have := phi_fwd (p' := p + 1) (c' := c) (c := c) hf hp (Nat.lt_succ_self _) fun _ _ _ _ _ _ _ => rfl
  omega
theorem phi_step (hf : FlawFree rs) {w : Row} (hw : rs[p]? = some w) (g : Goes w p c p' c') : Phi rs p' c' + 1 ≤ Phi rs p c := by
  have hp : p < rs.length := by
    by_cases h : p < rs.length
    · exact h
    · rw [List.getElem?_eq_none (by omega)] at hw
      cases hw
  have on : ∀ {c'}, c' = c → Phi rs (p + 1) c' + 1 ≤ Phi rs p c := fun e => phi_fwd hf hp (Nat.lt_succ_self _) fun _ _ _ _ _ _ _ => by rw [e]
  have jmp : ∀ d, flawR rs p w = (if p < d ∧ d < rs.length then [] else ["far"] : List Str) → Phi rs d c + 1 ≤ Phi rs p c := fun d e => by
    have z := hf p hp
    unfold flawAt at z
    rw [hw] at z
    have z : flawR rs p w = [] := z
    rw [e] at z
    by_cases h : p < d ∧ d < rs.length
    · exact phi_fwd hf hp h.1 fun _ _ _ _ _ _ _ => rfl
    · rw [if_neg h] at z
      cases z
  cases g with
  | plain => exact on rfl
  | begin =>
    rename_i l
    refine phi_fwd hf hp (Nat.lt_succ_self _) fun e l2 m2 d2 a h1 h2 => ?_
    have ne : l ≠ l2 := fun z => by
      subst z
      exact begin_free hf a h1 (by omega) hw
    rw [List.getD_eq_getElem?_getD, List.getElem?_set_ne ne, ← List.getD_eq_getElem?_getD]
  | on h1 h2 => exact on rfl
  | jump => exact jmp _ rfl
  | when => exact jmp _ rfl
  | when0 => exact on rfl
  | whenn => exact jmp _ rfl
  | whenn0 => exact on rfl
  | @back l m _ _ _ x h1 h2 =>
    have a : agAt rs p = some (l, m, p') := by
      unfold agAt
      rw [hw]
      rfl
    obtain ⟨hd, _, _⟩ := ag_free hf a
    have hL := lp_of hf
    have hin : p ∈ (ags rs).reverse := List.mem_reverse.mpr (ag_mem a).2
    have key : ∀ q, (val rs p' (c.set l (x + 1)) q (ags rs).reverse).2 ≤ (val rs p c q (ags rs).reverse).2 ∧ (q = p → (val rs p' (c.set l (x + 1)) q (ags rs).reverse).2 < (val rs p c q (ags rs).reverse).2) := fun q => by
      by_cases hq : p' ≤ q ∧ q ≤ p
      · exact val_back a h1 h2 hq.1 hq.2 _ hL hin
      · have e := val_out (c := c) (y := x + 1) a hd hq hL hin _ fun _ m => m
        exact ⟨Nat.le_of_eq e, fun z => absurd ⟨by omega, by omega⟩ hq⟩
    exact sum_lt _ (fun q _ => (key q).1) (List.mem_range.mpr hp) ((key p).2 rfl)
theorem val_often (q : Nat) : (val rs p c q (ags rs).reverse).1 = often rs q := by
  have key : ∀ r : List Nat, (val rs p c q r).1 = r.foldr (fun e acc => oftenF rs q acc e) 1 := fun r => by
    induction r with
    | nil => rfl
    | cons e r ih =>
      rw [List.foldr_cons, ← ih]
      show (stG rs p c q (val rs p c q r) e).1 = oftenF rs q (val rs p c q r).1 e
      generalize val rs p c q r = a
      unfold stG oftenF
      cases agAt rs e with
      | none => rfl
      | some t =>
        obtain ⟨l, m, d⟩ := t
        dsimp only
        split <;> rfl
  rw [key, List.foldr_reverse]
  rfl
theorem phi_bound : Phi rs p c ≤ boundOf rs := by
  unfold Phi boundOf
  refine sum_le _ fun q _ => ?_
  rw [← val_often (p := p) (c := c) q]
  exact val_le _
def placeD : PyData := .tuple [.str "fault", .str "place"]
/-- how many steps a run has made -/
def Few (rs : List Row) (r : Run) : Prop := (r.e = .none → r.n + Phi rs r.p r.cn ≤ boundOf rs) ∧ (r.e ≠ .none → r.n ≤ boundOf rs + 1 ∧ (r.e ≠ placeD → r.n ≤ boundOf rs))
theorem few_start {r : Run} (h : r.n = 0) (he : r.e = .none) : Few rs r := ⟨fun _ => by rw [h, Nat.zero_add]; exact phi_bound, fun z => absurd he z⟩
theorem few_step (hf : FlawFree rs) {r r' : Run} (s : Stp rs r r') (h : Few rs r) : Few rs r' := by
  cases s with
  | over _ e =>
    rw [e]
    exact h
  | out he hp hn he' =>
    have := h.1 he
    refine ⟨fun z => ?_, fun _ => ⟨by omega, fun z => absurd he' z⟩⟩
    rw [he'] at z
    cases z
  | ends he hp hn he' =>
    have := h.1 he
    have := phi_pos (c := r.cn) hf hp
    exact ⟨fun z => absurd z he', fun _ => ⟨by omega, fun _ => by omega⟩⟩
  | goes w he hw hn he' g =>
    have := h.1 he
    have := phi_step hf hw g
    exact ⟨fun _ => by omega, fun z => absurd he' z⟩
end K19
set_option maxHeartbeats 4000000
/-! repr of data: it asks that nothing is being shown around; promises that know this. -/
namespace K19
open PySem PySem.Spec PyProof.Rows L2
/-- a promise that holds where nothing is being shown -/
structure FnG (P : Program) (w : World) (K : PySem.W.Frag) (mg : Str → Option Value) (base : Heap) (k : Nat) (f : Addr) (fd : FuncData) (ps : List Str) (sp : List V → Hp → VK → Prop) : Prop where
  len : ∀ vs H Q, sp vs H Q → vs.length = ps.length
  run : ∀ (A : Around) (outer : List Env) (u : Shared) (H : Hp) (args : Args) (xs : List Value) (vs : List V) (Q : VK), Room k A → A.guards = some [] → Env0 P w K mg base A outer u H → BindsTo u fd args (ps.zip xs) → Vals vs xs → sp vs H Q →
    codeAny (model P w) A (.call (.ref f) args) (CR CX0 outer P w H u Q fun _ _ _ => False) u
section
variable {P : Program} {w : World} {K : PySem.W.Frag} {mg : Str → Option Value} {base : Heap} {x : Str} {st : Stmt} {f : Addr} {fd : FuncData} {N ps : List Str} {k : Nat} {sp : List V → Hp → VK → Prop}
theorem FnG.of (F : FunD K x x (defArgs st) (defBody st) (defScope st) [] [] f fd) (S : FnScope N ps (defScope st)) (len : ∀ vs H Q, sp vs H Q → vs.length = ps.length)
    (body : ∀ (cdv : Value) (A : Around) (outer : List Env) (u : Shared) (H : Hp) (vs : List V) (Q : VK), Room k (A.deeper (envOfC x (defScope st) u.heap.objs.size f cdv)) → A.guards = some [] → sp vs H Q →
      ∃ t, PSs (cxOf CX0 P w K mg base N x (defScope st) f cdv A outer u H fun _ _ _ => False).nox (defBody st) t ∧ t { nx := fun _ G => Q .non G, rt := Q } (start N vs) H) : FnG P w K mg base (k + 1) f fd ps sp := by
  obtain ⟨oc, od, dV, kV, doc, pm, an, cdv, ct, osl, rfl, look, hcode, _, _⟩ := F.ex
  refine ⟨len, fun A outer u H args xs vs Q room gd env hb rv hsp => ?_⟩
  have lv := len _ _ _ hsp
  have kin : K.In u.heap := env.mod.kin.keeps fun b o e => (env.bs b o e).1
  have nolim : u.heap.NoLimit := env.mod.nolimit.keeps fun b o e => (env.bs b o e).1
  have kinds : ∀ y ∈ ps.zip xs, (defScope st).names.lookup y.1 = some .local ∨ ((defScope st).names.lookup y.1 = some .cell ∧ ((cellsFrom (u.heap.objs.size + 1) (defScope st).names []).lookup y.1).isSome = true) := by
    rintro ⟨n, v⟩ hy
    rcases S.par n (List.of_mem_zip hy).1 with z | z
    · exact .inl z
    · exact .inr ⟨z, PySem.W.cellsFrom_some _ _ _ (.inl z)⟩
  refine codeAny_call_function room.depth (kin _ _ look) rfl S.co S.gen rfl (PySem.W.codeRec_of kin hcode) (hb _ _ _ _ ?_)
  refine wpAny_newFunctionEnv_cells S.kind kinds fun fenv he u1 inc => ?_
  subst he
  refine ⟨nolim.keeps inc.toInCall.keep, codeAny_func ?_⟩
  obtain ⟨t, ht, hq⟩ := body cdv A outer u H vs Q (room.deeper _) gd hsp
  have J : Inv (cxOf CX0 P w K mg base N x (defScope st) f cdv A outer u H fun _ _ _ => False) [] (start N vs) H u1 := inv_start S room.hd env lv rv inc
  refine wpAny_mono (ht.nox.run [] u1 (start N vs) H _ J hq) (fun fl u2 z => ?_) fun e u2 z => z
  have close : ∀ {σ' : L2.St} {G : Hp} {v : V} {y : Value}, Inv (cxOf CX0 P w K mg base N x (defScope st) f cdv A outer u H fun _ _ _ => False) [] σ' G u2 → RelV v y → Q v G → CE outer P w H u Q y u2 :=
    fun {σ' G v y} L r q => ⟨v, G, L.os, L.bare, L.base, L.hok, r, q⟩
  cases fl with
  | ret y =>
    obtain ⟨v, σ', G, L, r, q⟩ := z
    exact close L r q
  | next =>
    obtain ⟨σ', G, L, q⟩ := z
    exact close (v := V.non) (y := Value.none) L rfl q
  | brk =>
    obtain ⟨_, _, _, q⟩ := z
    exact q.elim
  | cont =>
    obtain ⟨_, _, _, q⟩ := z
    exact q.elim
end
section
variable {X : Cx} {k : Nat} {f : Addr} {fd : FuncData} {ps : List Str} {sp : List V → Hp → VK → Prop} {x : Str} {p pos : Pos} {e : Expr} {es : List Expr} {t : TA}
theorem pe_callG (F : FnG X.prog X.w X.K X.mg X.base k f fd ps sp) (room : Room k X.A) (gd : X.A.guards = some []) (hg : Gl X x) (hm : X.mg x = some (.ref f)) (hk : PySem.W.keepIn X.K (.ref f) = true) (hb : Binds X.K fd ps [])
    (ha : PA X (e :: es) t) (hdb : (x == ("__debug__" : Str)) = false) (he : starEach (e :: es) X.env = (false, eval e X.env) :: starEach es X.env) (hpl : (backTo pos (starEach es X.env)).any (·.1) = false) :
    PE X (.Call (.Name x p) (e :: es) [] pos) (fun σ H Q => t σ H fun vs G => sp vs G Q) := by
  refine ⟨fun pins u σ H Q I h => ?_⟩
  refine wpAny_Call_Name_kw (ld_glob I hg hm ?_ hdb)
  refine PySem.W.callWith_K (h₀ := X.base) I.ok.mod.kin hk (thn (ha.run pos pins u σ H _ I h) fun xs u1 ⟨vs, G, J, rv, q⟩ => ⟨J.kIn, ?_⟩) he hpl
  have lx : xs.length = ps.length := by
    rw [← rv.length]
    exact F.len _ _ _ q
  have bt := hb u1 xs J.kIn (by rw [List.append_nil]; exact lx)
  rw [List.append_nil] at bt
  refine wpAny_call (codeAny_mono (F.run X.A X.stack u1 G ⟨xs, []⟩ xs vs Q room gd J.env0 bt rv q) fun r u2 z => ?_)
  cases r with
  | error y => exact z.elim
  | ok fl =>
    cases fl with
    | ret y => exact J.after z
    | next => exact False.elim z
    | brk => exact False.elim z
    | cont => exact False.elim z
end
/-! ### repr -/
def rRep (K : PySem.W.Frag) : List V → Hp → VK → Prop := fun xs H Q => (∃ v ds, xs = [v] ∧ Dp K H v (.tuple ds) ∧ PyData.showable (.tuple ds) = true ∧ PyData.hasDict (.tuple ds) = false ∧ (PyData.tuple ds).depth ≤ 8 ∧ (PyData.shown (.tuple ds)).length ≤ sizeLine ∧ Q (.str (PyData.shown (.tuple ds))) H) ∨
  (∃ i : Int, xs = [.int i] ∧ i.natAbs.log2 < 1920 ∧ Q (.str (PyData.shown (.int i))) H) ∨ (xs = [.non] ∧ Q (.str (PyData.shown .none)) H)
theorem shown_int (i : Int) : PyData.shown (.int i) = (toString i : String) := by simp [PyData.shown]
theorem shown_none : PyData.shown .none = ("None" : Str) := by simp [PyData.shown]
theorem cr_rep {X : Cx} (gd : X.A.guards = some []) (room : Room 0 X.A) : CallR X (.builtin "repr") (rRep X.K) := by
  intro pins s σ H xs us Q I r h
  rcases h with ⟨v, ds, rfl, hd, hs, hn, hp, hz, q⟩ | ⟨i, rfl, hz, q⟩ | ⟨rfl, q⟩
  · obtain ⟨u, rfl, ru⟩ := vals1 r
    obtain ⟨as, rd⟩ := Dp.reads I (.tuple ds) v u hd ru
    cases rd with
    | tuple h1 h2 h3 h4 =>
      have un := room.un
      exact repr_of_reads' (.tuple h1 h2 h3 h4) hs (fun z => by rw [hn] at z; cases z) gd (by omega) (fun _ _ e => e) (fun g t tk hk => ⟨.str _, H, I.kept (t' := tk) hk, ⟨t, rfl⟩, q⟩) hz
  · obtain ⟨u, rfl, t, rfl⟩ := vals1 r
    rw [shown_int] at q
    exact PySem.P.repr_of_int hz ⟨.str _, H, I.tok _, ⟨_, rfl⟩, q⟩
  · obtain ⟨u, rfl, ru⟩ := vals1 r
    obtain rfl : u = Value.none := ru
    rw [shown_none] at q
    exact PySem.P.repr_of_none ⟨.str _, H, I.tok _, ⟨_, rfl⟩, q⟩
end K19
set_option maxHeartbeats 4000000
/-! Calls by keyword, calls of promises that know the guards, repr, over data. -/
namespace K19
open PySem PySem.Spec PyProof.Rows L2
/-! ### f(k = e) -/
section
variable {X : Cx} {k : Nat} {f : Addr} {fd : FuncData} {ps ks : List Str} {sp : Sp} {E : XK} {x : Str} {p pos : Pos} {kws : List Keyword} {tk : TA} {g : List Value → List Value → List Value} {gV : List V → List V → List V}
theorem pe_callK0 (F : FnOk X.prog X.w X.K X.mg X.base CX0 k f fd ps sp) (hr : Room k X.A) (hg : Gl X x) (hm : X.mg x = some (.ref f)) (hk : PySem.W.keepIn X.K (.ref f) = true) (hb : KBinds X.K fd ps ks g gV)
    (hkw : PK X kws tk) (hall : (backToKw pos (keywordEach kws X.env)).all (·.1.isSome) = true) (hks : (backToKw pos (keywordEach kws X.env)).filterMap (·.1) = ks)
    (hdb : (x == ("__debug__" : Str)) = false) (hpl : ((backTo pos (starEach [] X.env)).any (·.1) || (backToKw pos (keywordEach kws X.env)).any (·.1.isNone)) = false) :
    PE X (.Call (.Name x p) [] kws pos) (fun σ H Q => tk σ H fun zs G => sp (gV [] zs) G Q E) := by
  refine ⟨fun pins s σ H Q I h => ?_⟩
  refine wpAny_Call_Name_kw (ld_glob I hg hm ?_ hdb)
  refine PySem.W.callWith_KW0 (h₀ := X.base) I.ok.mod.kin hk hall (thn (hkw.run pos pins s σ H _ I h) fun ws u ⟨zs, G, J, rz, q⟩ => ⟨J.kIn, ?_⟩) hpl
  rw [hks]
  exact run_fnk F hr hb (fun _ _ _ _ _ _ _ z => z.elim) J .nil rz q
end
structure CalK (P : Program) (w : World) (K : PySem.W.Frag) (mg : Str → Option Value) (base : Heap) (k : Nat) (x : Str) (ps ks : List Str) (sp : Sc) : Prop where
  ex : ∃ f fd, FnOk P w K mg base CX0 k f fd ps (SpD K sp) ∧ mg x = some (.ref f) ∧ PySem.W.keepIn K (.ref f) = true ∧ KBinds K fd ps ks (fun us ws => us ++ ws) (fun us ws => us ++ ws)
structure CalG (P : Program) (w : World) (K : PySem.W.Frag) (mg : Str → Option Value) (base : Heap) (k : Nat) (x : Str) (ps : List Str) (sp : Sc) : Prop where
  ex : ∃ f fd, FnG P w K mg base k f fd ps (fun vs H Q => SpD K sp vs H Q fun _ _ _ => False) ∧ mg x = some (.ref f) ∧ PySem.W.keepIn K (.ref f) = true ∧ Binds K fd ps []
section
variable {P : Program} {w : World} {K : PySem.W.Frag} {mg : Str → Option Value} {base : Heap} {x : Str} {st : Stmt} {f : Addr} {fd : FuncData} {N ps : List Str} {sp : Sc} {k : Nat}
theorem CalG.of (F : FunD K x x (defArgs st) (defBody st) (defScope st) [] [] f fd) (hm : mg x = some (.ref f)) (S : FnScope N ps (defScope st))
    (hb : ∀ (kV doc pm : Value) (an : Option Addr) (cdv ct : Value) (us : List Value), us.length = ps.length → bindArgs (PySem.W.fnOf x x (defArgs st) (defBody st) (defScope st) .none kV doc pm an cdv ct) ⟨us, []⟩ = pure (ps.zip us))
    (len : ∀ ds k0, sp ds k0 → ds.length = ps.length)
    (body : ∀ (cdv : Value) (A : Around) (outer : List Env) (s : Shared) (H : Hp) (E : XK), Fm P w K mg base N (defScope st) k (bodyX P w K mg base N x (defScope st) f cdv A outer s H E) → (∀ i, (bodyX P w K mg base N x (defScope st) f cdv A outer s H E i).A.guards = some []) → ∀ ds k0, sp ds k0 →
      XSs K (bodyX P w K mg base N x (defScope st) f cdv A outer s H E) (defBody st) ⟨fun _ => k0 .none, k0, fun _ => False, fun _ => False⟩ (entry N ds)) : CalG P w K mg base (k + 1) x ps sp := by
  refine ⟨f, fd, FnG.of F S (fun vs H Q h => ?_) (fun cdv A outer s H vs Q hr gd h => ?_), hm, F.kp, F.bindsN hb⟩
  · obtain ⟨wa, G, ds, k0, _, r, h, _⟩ := h
    rw [r.len]
    exact len ds k0 h
  · obtain ⟨wa, G, ds, k0, wd, r, h, hq⟩ := h
    have fm : Fm P w K mg base N (defScope st) k (bodyX P w K mg base N x (defScope st) f cdv A outer s H fun _ _ _ => False) :=
      ⟨fun _ => rfl, fun _ => rfl, fun _ => rfl, fun _ => rfl, fun _ => rfl, fun _ => rfl, fun _ => rfl, fun _ => rfl, fun _ => hr, fun _ => rfl⟩
    obtain ⟨t, p, q⟩ := body cdv A outer s H (fun _ _ _ => False) fm (fun _ => gd) ds k0 h wa G H G (start N vs) G H { nx := fun _ H' => Q .non H', rt := Q }
      ⟨Le.refl wd, fun _ _ e => e, by
        have e := EnvOk.start (N.length - ds.length) r
        rw [← r.len] at e
        unfold entry
        rw [← r.len]
        exact e, fun _ _ z => nomatch z⟩
      ⟨fun s' σ' G' H' I z => hq .non .none G' H' I.le (.inl .non) z, fun _ _ _ _ _ z => z.elim, fun _ _ _ _ _ z => z.elim, fun v d G' H' l r z => hq v d G' H' l r z⟩
    exact ⟨t, p (), q⟩
end
section
variable {ι : Type} {K : PySem.W.Frag} {X : ι → Cx} {e : Expr} {es : List Expr} {δ : DS} {p pos kp : Pos} {P : Program} {w : World} {mg : Str → Option Value} {base : Heap} {N ps : List Str} {sc : Scope} {n j : Nat} {k : PyData → Prop} {x kn : Str} {sp : Sc} {kws : List Keyword} {nm : Option Str}
theorem XE.callK (f : Fm P w K mg base N sc n X) (cd : CalK P w K mg base j x ps [kn] sp) (hj : j ≤ n) (hg : sc.names.lookup x = some .globalImplicit) (h : XE K X e δ fun d => sp [d] k)
    (hall : ∀ i, (backToKw pos (keywordEach [⟨nm, e, kp⟩] (X i).env)).all (·.1.isSome) = true) (hks : ∀ i, (backToKw pos (keywordEach [⟨nm, e, kp⟩] (X i).env)).filterMap (·.1) = [kn])
    (hdb : (x == ("__debug__" : Str)) = false) (hpl : ∀ i, ((backTo pos (starEach [] (X i).env)).any (·.1) || (backToKw pos (keywordEach [⟨nm, e, kp⟩] (X i).env)).any (·.1.isNone)) = false) :
    XE K X (.Call (.Name x p) [] [⟨nm, e, kp⟩] pos) δ k := fun wa G H σ Q wd en hq => by
  obtain ⟨g, fd, F, hm, kp', bd⟩ := cd.ex
  refine ⟨fun σ H Q => tCons (rE X e) tNil σ H fun zs G => SpD K sp ([] ++ zs) G Q (fun _ _ _ => False), fun i => pe_callK0 (fd := fd) (ps := ps) (k := j) (g := fun us ws => us ++ ws) (gV := fun us ws => us ++ ws) ?_ (f.room' hj i) (f.gl hg i) (by rw [f.mg_ i]; exact hm) (by rw [f.K_ i]; exact kp') (by rw [f.K_ i]; exact bd) (pk_cons (rE_ok X e i) pk_nil) (hall i) (hks i) hdb (hpl i), ?_⟩
  · rw [f.P_ i, f.w_ i, f.K_ i, f.mg_ i, f.base_ i]
    exact F
  · exact h wa G H σ _ wd en fun v d G1 H1 l1 r1 h1 => ⟨wa, G1, [d], k, l1.wd, .cons r1 .nil, h1, fun v d G' H' l r z => hq v d G' H' (l1.trans l) r z⟩
theorem XE.callG (f : Fm P w K mg base N sc n X) (gd : ∀ i, (X i).A.guards = some []) (cd : CalG P w K mg base j x ps sp) (hj : j ≤ n) (hg : sc.names.lookup x = some .globalImplicit) (h : XA K X (e :: es) δ fun ds => sp ds k)
    (hdb : (x == ("__debug__" : Str)) = false) (he : ∀ i, starEach (e :: es) (X i).env = (false, eval e (X i).env) :: starEach es (X i).env) (hpl : ∀ i, (backTo pos (starEach es (X i).env)).any (·.1) = false) :
    XE K X (.Call (.Name x p) (e :: es) [] pos) δ k := fun wa G H σ Q wd en hq => by
  obtain ⟨g, fd, F, hm, kp', bd⟩ := cd.ex
  refine ⟨fun σ H Q => rA X (e :: es) σ H fun vs G => SpD K sp vs G Q fun _ _ _ => False, fun i => pe_callG (fd := fd) (ps := ps) (k := j) ?_ (f.room' hj i) (gd i) (f.gl hg i) (by rw [f.mg_ i]; exact hm) (by rw [f.K_ i]; exact kp') (by rw [f.K_ i]; exact bd) (rA_ok X (e :: es) i) hdb (he i) (hpl i), ?_⟩
  · rw [f.P_ i, f.w_ i, f.K_ i, f.mg_ i, f.base_ i]
    exact F
  · exact h wa G H σ _ wd en fun vs ds G1 H1 l1 r1 h1 => ⟨wa, G1, ds, k, l1.wd, r1, h1, fun v d G' H' l r z => hq v d G' H' (l1.trans l) r z⟩
/-- repr tells it -/
def RepOk (d : PyData) : Prop := (∃ ds, d = .tuple ds ∧ PyData.showable (.tuple ds) = true ∧ PyData.hasDict (.tuple ds) = false ∧ (PyData.tuple ds).depth ≤ 8 ∧ (PyData.shown (.tuple ds)).length ≤ sizeLine) ∨ (∃ i : Int, d = .int i ∧ i.natAbs.log2 < 1920) ∨ d = .none
theorem XE.rep' (f : Fm P w K mg base N sc n X) (gd : ∀ i, (X i).A.guards = some []) (hg : sc.names.lookup ("repr" : Str) = some .globalImplicit) (hm : mg "repr" = none) (h : XE K X e δ fun d => RepOk d ∧ k (.str (PyData.shown d)))
    (hs : ∀ i, starEach (e :: []) (X i).env = (false, eval e (X i).env) :: starEach [] (X i).env) (hpl : ∀ i, (backTo pos (starEach [] (X i).env)).any (·.1) = false) : XE K X (.Call (.Name "repr" p) [e] [] pos) δ k :=
  XE.cb (r := rRep K) f (fun i => by
    have z := cr_rep (X := X i) (gd i) (f.room' (Nat.zero_le _) i)
    rw [f.K_ i] at z
    exact z) hg hm PyProof.Rows.boot_repr (XA.cons (h.imp fun d ⟨ok, hk⟩ => XA.nil fun wa G H vs Q wd rr hq => by
    obtain ⟨v, rfl, r⟩ := rps1 rr
    have fin := hq _ _ G H (Le.refl wd) (.inl (.str (PyData.shown d))) hk
    rcases ok with ⟨ds, rfl, h1, h2, h3, h4⟩ | ⟨i, rfl, h1⟩ | rfl
    · exact .inl ⟨v, ds, rfl, dp_of _ _ (dq_mono wd.sub _ _ (r.dp True.intro)), h1, h2, h3, h4, fin⟩
    · exact .inr (.inl ⟨i, by rw [rp_int r], h1, fin⟩)
    · exact .inr (.inr ⟨by rw [rp_none r], fin⟩)) hs) (by decide) (by decide) hs hpl
end
end K19
set_option maxHeartbeats 4000000
namespace K19
open PySem PySem.Spec PyProof.Rows L2
/-! ### [elt for tg in iter for tg1 in iter1] -/
section
variable {ι : Type} {K : PySem.W.Frag} {X : ι → Cx} {elt tg iter tg1 iter1 : Expr} {ifs ifs1 : List Expr} {δ : DS} {pos : Pos} {P : Program} {w : World} {mg : Str → Option Value} {base : Heap} {N : List Str} {sc scope : Scope} {n : Nat} {k : PyData → Prop}
theorem XI.run {ks : List PyData → Prop} {wa : Addr} {G H : Hp} {σ : St} {R : It → Hp → Prop} (h : XI K X tg iter δ ks) (wd : Wd wa G H) (en : EnvOk K wa G σ δ) (hq : ∀ J ds G' H', Le wa G H G' H' → WalkD K wa G' J ds → ks ds → R J H') : rI X tg iter σ H R := h wa G H σ R wd en hq
/-- D stands beside: a step of the rest keeps it -/
theorem keep_at {wa D : Addr} {G1 H1 G H G' H' : Hp} (l : Le wa G1 H1 G H) (hD : H1 D = none) {vs : List V} (l2 : Le wa G H G' H') (hg : G D = none) (hp : H D = some (.lst vs)) (nD : D ≠ wa) : Le wa G1 H1 G' H' ∧ G' D = none ∧ H' D = some (.lst vs) := by
  have hpn : H D ≠ none := by
    rw [hp]
    exact fun z => nomatch z
  exact ⟨l.trans l2, (l2.kp D hpn).trans hg, (l2.fr D nD hpn).trans hp⟩
theorem push_at {wa D : Addr} {G1 H1 G H : Hp} (l : Le wa G1 H1 G H) (hD : H1 D = none) (hg : G D = none) (nD : D ≠ wa) {vs : List V} : Le wa G1 H1 G (upd H D (.lst vs)) := by
  refine ⟨⟨fun a u z => ?_, l.wd.out, ?_⟩, l.kp, fun a n0 z => ?_⟩
  · rw [upd_ne fun y => by rw [y, hg] at z; exact nomatch z]
    exact l.wd.sub a u z
  · obtain ⟨a, b, c, z⟩ := l.wd.well
    exact ⟨a, b, c, by rw [upd_ne (Ne.symm nD)]; exact z⟩
  · rw [upd_ne fun y => z (by rw [y]; exact hD)]
    exact l.fr a n0 z
theorem XE.lc2 {own : List (Str × Nat)} {vs1 : List Nat} (f : Fm P w K mg base N sc n X) (hN : N.Nodup) (ok : BlkOk N sc scope own) (hv : ∀ i ∈ vs1, i ∈ own.map (·.2))
    (h : XI K X tg iter δ fun ds => ∃ Pv : Nat → List PyData → Prop, Pv 0 [] ∧ (∀ i d acc, ds[i]? = some d → Pv i acc → XG K (blkF X scope) tg d (wipeD δ (own.map (·.2))) (own.map (·.2)) fun δ' => XTs K (blkF X scope) ifs δ' fun z => z = true ∧
      XI K (blkF X scope) tg1 iter1 δ' fun es => ∃ Pw : Nat → List PyData → Prop, Pw 0 acc ∧ (∀ j e acc', es[j]? = some e → Pw j acc' → acc'.length < 1000000 ∧ XG K (blkF X scope) tg1 e (wipeD δ' vs1) vs1 fun δ2 => XTs K (blkF X scope) ifs1 δ2 fun z => z = true ∧ XE K (blkF X scope) elt δ2 fun y => Dt y ∧ Pw (j + 1) (acc' ++ [y])) ∧
        ∀ acc', Pw es.length acc' → Pv (i + 1) acc') ∧ ∀ acc, Pv ds.length acc → k (.list acc))
    (hs : ∀ i x, foldedSetIterable iter (X i).env x = pure x) (hs1 : ∀ env x, foldedSetIterable iter1 env x = pure x) : XE K X (.ListComp elt [⟨tg, iter, ifs, 0⟩, ⟨tg1, iter1, ifs1, 0⟩] scope pos) δ k := by
  intro wa G H σ Q wd en hq
  refine ⟨tLc2 (rI X tg iter) (rG (blkF X scope) tg) (rTs (blkF X scope) ifs) (rI (blkF X scope) tg1 iter1) (rG (blkF X scope) tg1) (rTs (blkF X scope) ifs1) (rE (blkF X scope) elt) (own.map (·.2)) vs1, fun i => ?_, ?_⟩
  · exact pe_lc2 (f.calm i) (by rw [f.N_ i]; exact hN) (rI_ok X tg iter i) (by rw [f.N_ i, f.sc_ i]; exact ok) hv (fun s H C cl fp => rG_ok (blkF X scope) tg (i, s, H, C, cl, fp)) (fun s H C cl fp => rTs_ok (blkF X scope) ifs (i, s, H, C, cl, fp)) (fun s H C cl fp => rI_ok (blkF X scope) tg1 iter1 (i, s, H, C, cl, fp)) (fun s H C cl fp => rG_ok (blkF X scope) tg1 (i, s, H, C, cl, fp)) (fun s H C cl fp => rTs_ok (blkF X scope) ifs1 (i, s, H, C, cl, fp)) (fun s H C cl fp => rE_ok (blkF X scope) elt (i, s, H, C, cl, fp)) (hs i) hs1
  refine h.run wd en fun J ds G1 H1 l1 w1 ⟨Pv, h0, ht, he⟩ => ?_
  intro D hD
  have nD : D ≠ wa := fun z => l1.wd.nwa (by rw [← z]; exact hD)
  have enw := (en.mono (l1.same wd)).wipe (own.map (·.2))
  refine ⟨fun i m H => m = ds.length - i ∧ i ≤ ds.length ∧ ∃ G' vs acc, Le wa G1 H1 G' H ∧ G' D = none ∧ H D = some (.lst vs) ∧ DqAll G' vs acc ∧ Pv i acc, ⟨ds.length, by simp, Nat.zero_le _, G1, [], [], Le.tmp l1.wd hD, l1.wd.fresh hD, upd_same, .nil, h0⟩, ?_⟩
  rintro i m H' ⟨rfl, hi, G', vs, acc, l', hg, hp, q, pv⟩
  have sm := l'.same l1.wd
  by_cases hlt : i < ds.length
  · have hd : ds[i]? = some ds[i] := List.getElem?_eq_getElem hlt
    obtain ⟨g, y⟩ := w1.1 i _ G' H' hd l'.wd sm
    refine .inr ⟨g, fun H2 => i + 1 ≤ ds.length ∧ ∃ G2 vs acc, Le wa G1 H1 G2 H2 ∧ G2 D = none ∧ H2 D = some (.lst vs) ∧ DqAll G2 vs acc ∧ Pv (i + 1) acc, fun H2 z => ⟨ds.length - (i + 1), by omega, rfl, z.1, z.2⟩, fun x H2 hy => ?_⟩
    obtain ⟨G2, l2, r2⟩ := y x H2 hy
    obtain ⟨m2, hg2, hp2⟩ := keep_at l' hD l2 hg hp nD
    have q2 := dqAll_mono (l2.same l'.wd) _ _ q
    refine (ht i _ acc hd pv).run l2.wd (enw.mono (sm.trans (l2.same l'.wd))) r2 fun σ3 δ3 en3 le3 o3 h3 => ⟨wipe_same (fun _ z => z) le3 o3, ?_⟩
    refine h3 wa G2 H2 σ3 _ l2.wd en3 fun z G3 H3 l3 ⟨hz, h3⟩ => ?_
    subst hz
    rw [if_pos rfl]
    obtain ⟨m3, hg3, hp3⟩ := keep_at m2 hD l3 hg2 hp2 nD
    have q3 := dqAll_mono (l3.same l2.wd) _ _ q2
    have en3' := en3.mono (l3.same l2.wd)
    refine h3.run l3.wd en3' fun J1 es G4 H4 l4 w4 ⟨Pw, k0, kt, ke⟩ => ?_
    obtain ⟨m4, hg4, hp4⟩ := keep_at m3 hD l4 hg3 hp3 nD
    have q4 := dqAll_mono (l4.same l3.wd) _ _ q3
    have en4 := (en3'.mono (l4.same l3.wd)).wipe vs1
    refine ⟨fun j m H => m = es.length - j ∧ j ≤ es.length ∧ ∃ G' vs acc, Le wa G1 H1 G' H ∧ Same G4 G' ∧ G' D = none ∧ H D = some (.lst vs) ∧ DqAll G' vs acc ∧ Pw j acc, ⟨es.length, by simp, Nat.zero_le _, G4, vs, acc, m4, fun _ _ z => z, hg4, hp4, q4, k0⟩, ?_⟩
    rintro j m H5 ⟨rfl, hj, G5, vs5, acc5, m5, s5, hg5, hp5, q5, pw⟩
    by_cases hlt2 : j < es.length
    · have hd2 : es[j]? = some es[j] := List.getElem?_eq_getElem hlt2
      obtain ⟨g2, y2⟩ := w4.1 j _ G5 H5 hd2 m5.wd s5
      obtain ⟨hz5, kt⟩ := kt j _ acc5 hd2 pw
      refine .inr ⟨g2, fun H6 => j + 1 ≤ es.length ∧ ∃ G6 vs acc, Le wa G1 H1 G6 H6 ∧ Same G4 G6 ∧ G6 D = none ∧ H6 D = some (.lst vs) ∧ DqAll G6 vs acc ∧ Pw (j + 1) acc, fun H6 z => ⟨es.length - (j + 1), by omega, rfl, z.1, z.2⟩, fun x2 H6 hy2 => ?_⟩
      obtain ⟨G6, l6, r6⟩ := y2 x2 H6 hy2
      obtain ⟨m6, hg6, hp6⟩ := keep_at m5 hD l6 hg5 hp5 nD
      have q6 := dqAll_mono (l6.same m5.wd) _ _ q5
      have s6 := s5.trans (l6.same m5.wd)
      refine kt.run l6.wd (en4.mono s6) r6 fun σ7 δ7 en7 le7 o7 h7 => ⟨wipe_same (fun _ z => z) le7 o7, ?_⟩
      refine h7 wa G6 H6 σ7 _ l6.wd en7 fun z G7 H7 l7 ⟨hz, h7⟩ => ?_
      subst hz
      rw [if_pos rfl]
      obtain ⟨m7, hg7, hp7⟩ := keep_at m6 hD l7 hg6 hp6 nD
      have q7 := dqAll_mono (l7.same l6.wd) _ _ q6
      refine h7 wa G7 H7 σ7 _ l7.wd (en7.mono (l7.same l6.wd)) fun v y G8 H8 l8 r8 ⟨ty, pw'⟩ => ?_
      obtain ⟨m8, hg8, hp8⟩ := keep_at m7 hD l8 hg7 hp7 nD
      have q8 := dqAll_mono (l8.same l7.wd) _ _ q7
      exact ⟨vs5, hp8, by rw [dqAll_len q5]; exact small hz5, hlt2, G8, _, _, push_at m8 hD hg8 nD, (s6.trans (l7.same l6.wd)).trans (l8.same l7.wd), hg8, upd_same, dqAll_app q8 (.cons (r8.dp ty) .nil), pw'⟩
    · have e : j = es.length := by omega
      subst e
      exact .inl ⟨w4.2 G5 H5 m5.wd s5, hlt, G5, vs5, acc5, m5, hg5, hp5, q5, ke acc5 pw⟩
  · have e : i = ds.length := by omega
    subst e
    have h0 : H D = none := by
      cases e : H D with
      | none => rfl
      | some o => exact absurd hD (l1.dom (by rw [e]; exact fun z => nomatch z))
    obtain ⟨l2, r2⟩ := froze (K := K) (l1.trans l') h0 hg nD hp q
    exact .inl ⟨w1.2 G' H' l'.wd sm, hq _ _ _ _ l2 r2 (he acc pv)⟩
end
end K19
set_option maxHeartbeats 4000000
/-! repr tells flaws and bounds. -/
namespace K19
open PySem PySem.Spec PyProof.Rows L2
def reasons : List Str := ["far", "back", "begin", "crossed"]
theorem flawR_ok (rs : List Row) (p : Nat) (w : Row) : (flawR rs p w).length ≤ 1 ∧ ∀ s ∈ flawR rs p w, s ∈ reasons := by
  have one : ∀ s ∈ reasons, ([s] : List Str).length ≤ 1 ∧ ∀ t ∈ [s], t ∈ reasons := fun s hs => ⟨Nat.le_refl _, fun t ht => by
    rw [List.mem_singleton.mp ht]
    exact hs⟩
  have non : ([] : List Str).length ≤ 1 ∧ ∀ t ∈ ([] : List Str), t ∈ reasons := ⟨Nat.zero_le _, fun _ z => nomatch z⟩
  have m1 : ("far" : Str) ∈ reasons := .head _
  have m2 : ("back" : Str) ∈ reasons := .tail _ (.head _)
  have m3 : ("begin" : Str) ∈ reasons := .tail _ (.tail _ (.head _))
  have m4 : ("crossed" : Str) ∈ reasons := .tail _ (.tail _ (.tail _ (.head _)))
  cases w with
  | plain => exact non
  | begin => exact non
  | jump d =>
    simp only [flawR]
    split
    · exact non
    · exact one _ m1
  | when c a b d =>
    simp only [flawR]
    split
    · exact non
    · exact one _ m1
  | whenn c a b d =>
    simp only [flawR]
    split
    · exact non
    · exact one _ m1
  | again l m d =>
    simp only [flawR]
    split
    · exact one _ m2
    · split
      · exact one _ m3
      · split
        · exact one _ m4
        · exact non
theorem flawAt_ok (rs : List Row) (p : Nat) : (flawAt rs p).length ≤ 1 ∧ ∀ s ∈ flawAt rs p, s ∈ reasons := by
  unfold flawAt
  cases rs[p]? with
  | none => exact ⟨Nat.zero_le _, fun _ z => nomatch z⟩
  | some w => exact flawR_ok rs p w
theorem flaws_mem {rs : List Row} {q : Nat × Str} (h : q ∈ flawsOf rs) : q.1 < rs.length ∧ q.2 ∈ reasons := by
  obtain ⟨p, hp, hq⟩ := List.mem_flatMap.mp h
  obtain ⟨s, hs, rfl⟩ := List.mem_map.mp hq
  exact ⟨List.mem_range.mp hp, (flawAt_ok rs p).2 s hs⟩
theorem flaws_len (rs : List Row) : (flawsOf rs).length ≤ rs.length := by
  unfold flawsOf
  rw [List.length_flatMap]
  have h : ∀ n, ((List.range n).map fun p => ((flawAt rs p).map fun s => (p, s)).length).sum ≤ n := fun n => by
    induction n with
    | zero => exact Nat.le_refl _
    | succ n ih =>
      rw [List.range_succ, List.map_append, List.sum_append]
      have e := (flawAt_ok rs n).1
      simp only [List.map_cons, List.map_nil, List.sum_cons, List.sum_nil, List.length_map]
      simp only [List.length_map] at ih
      omega
  exact h _
def goodLeaf (d : PyData) : Prop := PyData.showable d = true ∧ PyData.hasDict d = false ∧ d.depth ≤ 2 ∧ PyData.leavesShort 13 d = true ∧ d.weight ≤ 20
theorem good_flaw {q : Nat × Str} (h1 : q.1 < 100) (h2 : q.2 ∈ reasons) : goodLeaf (flawD q) := by
  obtain ⟨p, s⟩ := q
  have fInts : ∀ p, p < 100 → (PyData.showable (I p) = true ∧ (I p).weight ≤ 8 ∧ PyData.leavesShort 13 (I p) = true) := by decide +kernel
  have fTxts : ∀ s ∈ reasons, (PyData.str s).weight ≤ 8 ∧ PyData.leavesShort 13 (.str s) = true := by decide +kernel
  obtain ⟨a1, a2, a3⟩ := fInts p h1
  obtain ⟨b1, b2⟩ := fTxts s h2
  unfold flawD
  refine ⟨?_, ?_, ?_, ?_, ?_⟩
  · simp only [PyData.showable, PyData.showableAll, Bool.and_true] at a1 ⊢
    exact a1
  · simp [PyData.hasDict, PyData.hasDictAll]
  · simp [PyData.depth, PyData.depthAll]
  · simp only [PyData.leavesShort, PyData.leavesShortAll, Bool.and_true] at a3 b2 ⊢
    rw [a3, b2]
    rfl
  · simp only [PyData.weight, PyData.weightAll] at a2 b1 ⊢
    omega
theorem good_all : ∀ ds : List PyData, (∀ d ∈ ds, goodLeaf d) → PyData.showableAll ds = true ∧ PyData.hasDictAll ds = false ∧ PyData.depthAll ds ≤ 2 ∧ PyData.leavesShortAll 13 ds = true ∧ PyData.weightAll ds ≤ 21 * ds.length
  | [], _ => by simp [PyData.showableAll, PyData.hasDictAll, PyData.depthAll, PyData.leavesShortAll, PyData.weightAll]
  | d :: ds, h => by
    obtain ⟨a1, a2, a3, a4, a5⟩ := h d (.head _)
    obtain ⟨b1, b2, b3, b4, b5⟩ := good_all ds fun x hx => h x (.tail _ hx)
    refine ⟨by simp only [PyData.showableAll, a1, b1, Bool.and_true], by simp only [PyData.hasDictAll, a2, b2, Bool.or_false], ?_, by simp only [PyData.leavesShortAll, a4, b4, Bool.and_true], ?_⟩
    · simp only [PyData.depthAll]
      omega
    · simp only [PyData.weightAll, List.length_cons]
      omega
theorem rep_flaws {rs : List Row} (h : SieveOk rs) : RepOk (flawsD rs) := by
  have hl := h.len
  have fl := flaws_len rs
  obtain ⟨b1, b2, b3, b4, b5⟩ := good_all ((flawsOf rs).map flawD) fun d hd => by
    obtain ⟨q, hq, rfl⟩ := List.mem_map.mp hd
    obtain ⟨z1, z2⟩ := flaws_mem hq
    exact good_flaw (by omega) z2
  rw [List.length_map] at b5
  refine .inl ⟨_, rfl, by simpa only [PyData.showable] using b1, by simpa only [PyData.hasDict] using b2, ?_, PyData.shown_fits (B := 13) (by decide) (by decide) (by simpa only [PyData.leavesShort] using b4) ?_⟩
  · simp only [PyData.depth]
    omega
  · simp only [PyData.weight]
    have e : (2 : Nat) ^ 20 = 1048576 := by decide
    omega
theorem often_le {rs : List Row} (h : SieveOk rs) (q : Nat) : often rs q ≤ 101 ^ 100 := by
  have g : ∀ (L : List Nat) (acc : Nat), L.foldl (oftenF rs q) acc ≤ acc * 101 ^ L.length := fun L => by
    induction L with
    | nil => intro acc; simp
    | cons p L ih =>
      intro acc
      rw [List.foldl_cons]
      refine Nat.le_trans (ih _) ?_
      have e : oftenF rs q acc p ≤ acc * 101 := by
        unfold oftenF
        cases ea : agAt rs p with
        | none => exact Nat.le_mul_of_pos_right _ (by decide)
        | some t =>
          obtain ⟨l, m, d⟩ := t
          have hr := h.rows _ (List.mem_of_getElem? (ag_row ea))
          have hm : m ≤ 100 := hr.2.2.1
          show (if d ≤ q ∧ q ≤ p then acc * (m + 1) else acc) ≤ acc * 101
          split
          · exact Nat.mul_le_mul_left _ (by omega)
          · exact Nat.le_mul_of_pos_right _ (by decide)
      calc oftenF rs q acc p * 101 ^ L.length ≤ acc * 101 * 101 ^ L.length := Nat.mul_le_mul_right _ e
        _ = acc * 101 ^ (p :: L).length := by rw [List.length_cons, Nat.pow_succ, Nat.mul_assoc, Nat.mul_comm 101]
  unfold often
  refine Nat.le_trans (g _ 1) ?_
  rw [Nat.one_mul]
  exact Nat.pow_le_pow_right (by decide) (Nat.le_trans (ags_len rs) h.len)
theorem bound_lt {rs : List Row} (h : SieveOk rs) : boundOf rs < 2 ^ 1900 := by
  have g : ∀ L : List Nat, (L.map (often rs)).sum ≤ L.length * 101 ^ 100 := fun L => by
    induction L with
    | nil => exact Nat.zero_le _
    | cons q L ih =>
      rw [List.map_cons, List.sum_cons, List.length_cons, Nat.succ_mul]
      have := often_le h q
      omega
  have e := g (List.range rs.length)
  rw [List.length_range] at e
  have hl := h.len
  have e2 : rs.length * 101 ^ 100 ≤ 100 * 101 ^ 100 := Nat.mul_le_mul_right _ hl
  have e3 : 100 * 101 ^ 100 < 2 ^ 1900 := by decide +kernel
  unfold boundOf
  exact Nat.lt_of_le_of_lt (Nat.le_trans e e2) e3
theorem rep_bound {rs : List Row} (h : SieveOk rs) : RepOk (I (boundOf rs)) := by
  refine .inr (.inl ⟨_, rfl, ?_⟩)
  have e := bound_lt h
  rw [Int.natAbs_natCast]
  by_cases z : boundOf rs = 0
  · rw [z]
    decide
  · exact Nat.lt_trans ((Nat.log2_lt z).mpr e) (by decide)
theorem rep_none : RepOk .none := .inr (.inr rfl)
/-- a run's end is even to data -/
theorem end_shaped {e : PyData} (h : EndOk e) : SeqAt.shaped e = true := by
  rcases h with rfl | ⟨s, hs, rfl⟩ | ⟨x, rfl⟩
  · decide
  · have hx : PyData.canLay0 (.str s) = true := by simpa only [PyData.canLay0] using hs
    have f : Sh 0 (.str "fault") := ⟨by decide +kernel, by simp only [PyData.depth]; omega⟩
    have g : Sh 0 (.str s) := ⟨hx, by simp only [PyData.depth]; omega⟩
    exact (sh_tup (shl_cons f (shl_cons g shl_nil))).ok (by omega)
  · have f : Sh 0 (.str "answer") := ⟨by decide +kernel, by simp only [PyData.depth]; omega⟩
    exact (sh_tup (shl_cons f (shl_cons (sh_int _) shl_nil))).ok (by omega)
theorem eqK_place {e : PyData} {kt : Bool → Prop} (h : EndOk e) (hk : ∀ b, (b = true → e = placeD) → (e = placeD → b = true) → kt b) : EqK e placeD kt := by
  refine .inr (.inr ⟨end_shaped h, by decide +kernel, hk _ (fun z => ?_) (fun z => by rw [z]; decide +kernel)⟩)
  rcases h with rfl | ⟨s, hs, rfl⟩ | ⟨x, rfl⟩
  · simp [PyData.eqv, placeD] at z
  · have : s = "place" := by simpa [PyData.eqv, PyData.eqvAll, placeD] using z
    rw [this]
    rfl
  · simp [PyData.eqv, PyData.eqvAll, placeD] at z
end K19
namespace K19
open PySem PySem.Spec PyProof.Rows L2
set_option pp.maxSteps 500
set_option hygiene false
local macro_rules | `(tactic| walk_at "fm") => `(tactic| first | exact fm | exact Fm.blk fm _ | exact Fm.blk (Fm.blk fm _) _)
local macro_rules | `(tactic| walk_at "at") => `(tactic| with_reducible first | exact At.z | exact At.s At.z | exact At.s (At.s At.z) | exact At.s (At.s (At.s At.z)) | exact At.s (At.s (At.s (At.s At.z))) | exact At.s (At.s (At.s (At.s (At.s At.z)))) | exact At.s (At.s (At.s (At.s (At.s (At.s At.z))))) | exact At.s (At.s (At.s (At.s (At.s (At.s (At.s At.z)))))) | exact At.s (At.s (At.s (At.s (At.s (At.s (At.s (At.s At.z))))))) | exact At.s (At.s (At.s (At.s (At.s (At.s (At.s (At.s (At.s At.z)))))))) | exact At.s (At.s (At.s (At.s (At.s (At.s (At.s (At.s (At.s (At.s At.z))))))))) | exact At.s (At.s (At.s (At.s (At.s (At.s (At.s (At.s (At.s (At.s (At.s At.z)))))))))) | exact At.s (At.s (At.s (At.s (At.s (At.s (At.s (At.s (At.s (At.s (At.s (At.s At.z))))))))))) | exact At.s (At.s (At.s (At.s (At.s (At.s (At.s (At.s (At.s (At.s (At.s (At.s (At.s At.z)))))))))))) | exact At.s (At.s (At.s (At.s (At.s (At.s (At.s (At.s (At.s (At.s (At.s (At.s (At.s (At.s At.z))))))))))))) | exact At.s (At.s (At.s (At.s (At.s (At.s (At.s (At.s (At.s (At.s (At.s (At.s (At.s (At.s (At.s At.z)))))))))))))) | exact At.s (At.s (At.s (At.s (At.s (At.s (At.s (At.s (At.s (At.s (At.s (At.s (At.s (At.s (At.s (At.s At.z))))))))))))))) | exact At.s (At.s (At.s (At.s (At.s (At.s (At.s (At.s (At.s (At.s (At.s (At.s (At.s (At.s (At.s (At.s (At.s At.z)))))))))))))))) | exact At.s (At.s (At.s (At.s (At.s (At.s (At.s (At.s (At.s (At.s (At.s (At.s (At.s (At.s (At.s (At.s (At.s (At.s At.z))))))))))))))))) | exact At.s (At.s (At.s (At.s (At.s (At.s (At.s (At.s (At.s (At.s (At.s (At.s (At.s (At.s (At.s (At.s (At.s (At.s (At.s At.z)))))))))))))))))) | exact At.s (At.s (At.s (At.s (At.s (At.s (At.s (At.s (At.s (At.s (At.s (At.s (At.s (At.s (At.s (At.s (At.s (At.s (At.s (At.s At.z))))))))))))))))))) | exact At.s (At.s (At.s (At.s (At.s (At.s (At.s (At.s (At.s (At.s (At.s (At.s (At.s (At.s (At.s (At.s (At.s (At.s (At.s (At.s (At.s At.z)))))))))))))))))))))
local macro_rules | `(tactic| walk_at "rr") => `(tactic| (intro _; rfl))
local macro_rules | `(tactic| walk_at "rr2") => `(tactic| (intro _ _; rfl))
local macro_rules | `(tactic| walk_at "vis") => `(tactic| first | exact .inl rfl | exact .inr (.inl rfl) | exact .inr (.inr rfl))
local macro_rules | `(tactic| walk_at "loc") => `(tactic| first | exact .inl rfl | exact .inr rfl)
local macro_rules | `(tactic| walk_at "fn") => `(tactic| (intro _; first | exact .inl rfl | exact .inr rfl))
local macro_rules | `(tactic| walk_at "side") => `(tactic| first | omega | (unfold CMul; omega) | (unfold CDiv; omega) | (unfold CPow; omega) | (unfold RgOk; omega) | decide | assumption | (simp only [List.length_cons, List.length_nil, List.length_append, List.length_map, List.length_set]; omega) | exact Nat.le_of_ble_eq_true rfl)
local macro_rules | `(tactic| walk_at "dt") => `(tactic| first | exact True.intro | assumption)
local macro_rules | `(tactic| walk_at "dts") => `(tactic| first | exact dts_nil | exact dts_cons (by walk_at "dt") (by walk_at "dts"))
local macro_rules | `(tactic| walk_at "xbin") => `(tactic| first | ((with_reducible show XE _ _ (Expr.BinOp (Expr.Tuple _ _ _) Operator.Mult _ _) _ _); refine XE.rep (by walk_at "fm") ?_) | ((with_reducible show XE _ _ (Expr.BinOp _ Operator.Add _ _) _ _); refine XE.plus (by walk_at "fm") ?_) | ((with_reducible show XE _ _ (Expr.BinOp _ Operator.Sub _ _) _ _); refine XE.sub ?_) | ((with_reducible show XE _ _ (Expr.BinOp _ Operator.Mult _ _) _ _); refine XE.mul ?_) | ((with_reducible show XE _ _ (Expr.BinOp _ Operator.FloorDiv _ _) _ _); refine XE.fdiv ?_) | ((with_reducible show XE _ _ (Expr.BinOp _ Operator.Mod _ _) _ _); refine XE.mod ?_) | ((with_reducible show XE _ _ (Expr.BinOp _ Operator.LShift _ _) _ _); refine XE.shl ?_) | ((with_reducible show XE _ _ (Expr.BinOp _ Operator.RShift _ _) _ _); refine XE.shr ?_) | ((with_reducible show XE _ _ (Expr.BinOp _ Operator.BitAnd _ _) _ _); refine XE.band ?_) | ((with_reducible show XE _ _ (Expr.BinOp _ Operator.BitOr _ _) _ _); refine XE.bor ?_) | ((with_reducible show XE _ _ (Expr.BinOp _ Operator.BitXor _ _) _ _); refine XE.bxor ?_))
local macro_rules | `(tactic| walk_at "xcmp") => `(tactic| first | ((with_reducible show XE _ _ (Expr.Compare _ [CmpOp.Eq] _ _) _ _); refine XE.eq (by walk_at "fm") ?_) | ((with_reducible show XE _ _ (Expr.Compare _ [CmpOp.NotEq] _ _) _ _); refine XE.ne (by walk_at "fm") ?_) | ((with_reducible show XE _ _ (Expr.Compare _ [CmpOp.Lt] _ _) _ _); refine XE.lt ?_) | ((with_reducible show XE _ _ (Expr.Compare _ [CmpOp.LtE] _ _) _ _); refine XE.le ?_) | ((with_reducible show XE _ _ (Expr.Compare _ [CmpOp.Gt] _ _) _ _); refine XE.gt ?_) | ((with_reducible show XE _ _ (Expr.Compare _ [CmpOp.GtE] _ _) _ _); refine XE.ge ?_) | ((with_reducible show XE _ _ (Expr.Compare _ [CmpOp.Is] _ _) _ _); refine XE.is ?_) | ((with_reducible show XE _ _ (Expr.Compare _ [CmpOp.IsNot] _ _) _ _); refine XE.isNot ?_) | ((with_reducible show XE _ _ (Expr.Compare _ [CmpOp.In] _ _) _ _); refine XE.inS (by walk_at "fm") ?_ (by rfl)) | ((with_reducible show XE _ _ (Expr.Compare _ [CmpOp.NotIn] _ _) _ _); refine XE.ninS (by walk_at "fm") ?_ (by rfl)) | ((with_reducible show XE _ _ (Expr.Compare _ [CmpOp.LtE, CmpOp.LtE] _ _) _ _); refine XE.lele ?_ (by rfl)))
local macro_rules | `(tactic| walk_at "xtcmp") => `(tactic| first | ((with_reducible show XT _ _ (Expr.Compare _ [CmpOp.Eq] _ _) _ _); refine XT.eq (by walk_at "fm") ?_) | ((with_reducible show XT _ _ (Expr.Compare _ [CmpOp.NotEq] _ _) _ _); refine XT.ne (by walk_at "fm") ?_) | ((with_reducible show XT _ _ (Expr.Compare _ [CmpOp.Lt] _ _) _ _); refine XT.lt ?_) | ((with_reducible show XT _ _ (Expr.Compare _ [CmpOp.LtE] _ _) _ _); refine XT.le ?_) | ((with_reducible show XT _ _ (Expr.Compare _ [CmpOp.Gt] _ _) _ _); refine XT.gt ?_) | ((with_reducible show XT _ _ (Expr.Compare _ [CmpOp.GtE] _ _) _ _); refine XT.ge ?_) | ((with_reducible show XT _ _ (Expr.Compare _ [CmpOp.Is] _ _) _ _); refine XT.is ?_) | ((with_reducible show XT _ _ (Expr.Compare _ [CmpOp.IsNot] _ _) _ _); refine XT.isNot ?_) | ((with_reducible show XT _ _ (Expr.Compare _ [CmpOp.In] _ _) _ _); refine XT.inS (by walk_at "fm") ?_ (by rfl)) | ((with_reducible show XT _ _ (Expr.Compare _ [CmpOp.NotIn] _ _) _ _); refine XT.ninS (by walk_at "fm") ?_ (by rfl)) | ((with_reducible show XT _ _ (Expr.Compare _ [CmpOp.LtE, CmpOp.LtE] _ _) _ _); refine XT.lele ?_ (by rfl)) | ((with_reducible show XT _ _ (Expr.Compare _ [CmpOp.Lt, CmpOp.Lt] _ _) _ _); refine XT.ltlt ?_ (by rfl)))
local macro_rules | `(tactic| walk_at "xcall") => `(tactic| first | ((with_reducible show XE _ _ (Expr.Call (Expr.Name "len" _) _ _ _) _ _); refine XE.len (by walk_at "fm") (by rfl) M.wo.len_ ?_ (by walk_at "rr") (by walk_at "rr")) | ((with_reducible show XE _ _ (Expr.Call (Expr.Name "abs" _) _ _ _) _ _); refine XE.abs (by walk_at "fm") (by rfl) M.wo.abs_ ?_ (by walk_at "rr") (by walk_at "rr")) | ((with_reducible show XE _ _ (Expr.Call (Expr.Name "sum" _) _ _ _) _ _); refine XE.sum (by walk_at "fm") (by rfl) M.wo.sum_ ?_ (by walk_at "rr") (by walk_at "rr")) | ((with_reducible show XE _ _ (Expr.Call (Expr.Name "any" _) _ _ _) _ _); refine XE.any (by walk_at "fm") (by rfl) M.wo.any_ ?_ (by walk_at "rr") (by walk_at "rr")) | ((with_reducible show XE _ _ (Expr.Call (Expr.Name "all" _) _ _ _) _ _); refine XE.all (by walk_at "fm") (by rfl) M.wo.all_ ?_ (by walk_at "rr") (by walk_at "rr")) | ((with_reducible show XE _ _ (Expr.Call (Expr.Name "int" _) _ _ _) _ _); refine XE.int1 (by walk_at "fm") (by rfl) M.wo.int_ ?_ (by walk_at "rr") (by walk_at "rr")) | ((with_reducible show XE _ _ (Expr.Call (Expr.Name "tuple" _) _ _ _) _ _); refine XE.tupleOf (by walk_at "fm") (by rfl) M.wo.tuple_ ?_ (by walk_at "rr") (by walk_at "rr")) | ((with_reducible show XE _ _ (Expr.Call (Expr.Name "max" _) _ _ _) _ _); refine XE.max (by walk_at "fm") (by rfl) M.wo.max_ ?_ (by walk_at "rr") (by walk_at "rr") (by walk_at "rr")) | ((with_reducible show XE _ _ (Expr.Call (Expr.Name "min" _) _ _ _) _ _); refine XE.min (by walk_at "fm") (by rfl) M.wo.min_ ?_ (by walk_at "rr") (by walk_at "rr") (by walk_at "rr")) | ((with_reducible show XE _ _ (Expr.Call (Expr.Name "list" _) _ _ _) _ _); refine XE.listRng (by walk_at "fm") (by rfl) M.wo.list_ (by rfl) M.wo.range_ ?_ (by walk_at "rr") (by walk_at "rr") (by walk_at "rr") (by walk_at "rr")) | (refine XE.call (by walk_at "fm") (by assumption) (by first | exact Nat.le_refl _ | decide | omega) (by rfl) ?_ (by rfl) (by walk_at "rr") (by walk_at "rr")) | (refine XE.call0 (by walk_at "fm") (by assumption) (by first | exact Nat.le_refl _ | decide | omega) (by rfl) ?_ (by rfl)))
local macro_rules | `(tactic| walk_at "xkn") => `(tactic| first | ((with_reducible show XE _ _ (Expr.Name "OPS" _) _ _); refine XE.kn (by walk_at "fm") (by rfl) C.OPS ?_ (by rfl)) | ((with_reducible show XE _ _ (Expr.Name "SHIFTED" _) _ _); refine XE.kn (by walk_at "fm") (by rfl) C.SHIFTED ?_ (by rfl)) | ((with_reducible show XE _ _ (Expr.Name "CONDITIONS" _) _ _); refine XE.kn (by walk_at "fm") (by rfl) C.CONDITIONS ?_ (by rfl)) | ((with_reducible show XE _ _ (Expr.Name "ASKED" _) _ _); refine XE.kn (by walk_at "fm") (by rfl) C.ASKED ?_ (by rfl)) | ((with_reducible show XE _ _ (Expr.Name "NAMED" _) _ _); refine XE.kn (by walk_at "fm") (by rfl) C.NAMED ?_ (by rfl)) | ((with_reducible show XE _ _ (Expr.Name "MOST_ROWS" _) _ _); refine XE.ki (by walk_at "fm") (by rfl) C.MOST ?_ (by rfl)))
local macro_rules | `(tactic| walk_at "xe") => `(tactic| first | ((with_reducible show XE _ _ (Expr.Name _ _) _ _); refine XE.v (by walk_at "fm") (by walk_at "at") (by walk_at "vis") (by rfl) ?_ (by rfl) (by rfl)) | ((with_reducible show XE _ _ (Expr.Name _ _) _ _); walk_at "xkn") | ((with_reducible show XE _ _ (Expr.Constant (Const.int _) _ _) _ _); refine XE.int ?_) | ((with_reducible show XE _ _ (Expr.Constant (Const.str _) _ _) _ _); refine XE.str ?_) | ((with_reducible show XE _ _ (Expr.Constant Const.none _ _) _ _); refine XE.non ?_) | ((with_reducible show XE _ _ (Expr.Constant (Const.bool _) _ _) _ _); refine XE.bl ?_) | ((with_reducible show XE _ _ (Expr.Subscript _ (Expr.Slice _ _ _ _) _) _ _); refine XE.slice (by walk_at "fm") ?_) | ((with_reducible show XE _ _ (Expr.Subscript _ _ _) _ _); refine XE.ix (by walk_at "fm") ?_ (by walk_at "rr2")) | ((with_reducible show XE _ _ (Expr.BinOp _ _ _ _) _ _); walk_at "xbin") | ((with_reducible show XE _ _ (Expr.Compare _ _ _ _) _ _); walk_at "xcmp") | ((with_reducible show XE _ _ (Expr.Call _ _ _ _) _ _); walk_at "xcall") | ((with_reducible show XE _ _ (Expr.Tuple _ _ _) _ _); refine XE.tup ?_) | ((with_reducible show XE _ _ (Expr.List _ _) _ _); refine XE.lst ?_) | ((with_reducible show XE _ _ (Expr.IfExp _ _ _ _) _ _); refine XE.ite ?_) | ((with_reducible show XE _ _ (Expr.UnaryOp UnaryOp.USub _ _) _ _); refine XE.neg ?_) | ((with_reducible show XE _ _ (Expr.UnaryOp UnaryOp.Not _ _) _ _); refine XE.not ?_) | ((with_reducible show XE _ _ (Expr.BoolOp _ [_] _) _ _); refine XE.one ?_) | ((with_reducible show XE _ _ (Expr.BoolOp BoolOp.And _ _) _ _); refine XE.and ?_) | ((with_reducible show XE _ _ (Expr.BoolOp BoolOp.Or _ _) _ _); refine XE.or ?_))
local macro_rules | `(tactic| walk_at "xt") => `(tactic| first | ((with_reducible show XT _ _ (Expr.Compare _ _ _ _) _ _); walk_at "xtcmp") | ((with_reducible show XT _ _ (Expr.UnaryOp UnaryOp.Not _ _) _ _); refine XT.not ?_) | ((with_reducible show XT _ _ (Expr.BoolOp _ _ _) _ _); refine XT.chain ?_) | (refine XT.val ?_ (by walk_at "rr2")))
local macro_rules | `(tactic| walk_at "xw") => `(tactic| first | (refine XW.and ?_) | (refine XW.or ?_) | (refine XW.and1 ?_) | (refine XW.or1 ?_))
local macro_rules | `(tactic| walk_at "xa") => `(tactic| first | (refine XA.nil ?_) | (refine XA.cons ?_ (by walk_at "rr")))
local macro_rules | `(tactic| walk_at "xo") => `(tactic| first | (refine XO.none ?_) | (refine XO.some ?_))
local macro_rules | `(tactic| walk_at "xts") => `(tactic| first | (refine XTs.nil ?_) | (refine XTs.one ?_))
local macro_rules | `(tactic| walk_at "xgs") => `(tactic| first | (refine XGs.nil ?_) | (refine XGs.cons ?_ (by walk_at "rr")))
local macro_rules | `(tactic| walk_at "xg") => `(tactic| first | ((with_reducible show XG _ _ (Expr.Name _ _) _ _ _ _); refine XG.nm (by walk_at "fm") (by assumption) (by walk_at "at") (by walk_at "loc") (by decide) ?_ (by walk_at "fn")) | (refine XG.t (by walk_at "fm") (by rfl) ?_ (by walk_at "rr") (by walk_at "rr")))
local macro_rules | `(tactic| walk_at "xi") => `(tactic| first | (refine XI.rng (by walk_at "fm") (by rfl) M.wo.range_ ?_ (by walk_at "rr")) | (refine XI.rng2 (by walk_at "fm") (by rfl) M.wo.range_ ?_ (by walk_at "rr") (by walk_at "rr")))
local macro_rules | `(tactic| walk_at "xss") => `(tactic| first | (refine XSs.cons ?_) | (refine XSs.nil ?_))
local macro_rules | `(tactic| walk_at "xs") => `(tactic| first | ((with_reducible show XS _ _ (Stmt.Return _ _) _ _); refine XS.r ?_) | ((with_reducible show XS _ _ (Stmt.If _ _ _ _) _ _); refine XS.if ?_) | ((with_reducible show XS _ _ (Stmt.Continue _) _ _); refine XS.cont ?_) | ((with_reducible show XS _ _ (Stmt.Break _) _ _); refine XS.brk ?_) | ((with_reducible show XS _ _ (Stmt.Assign [Expr.Name _ _] _ _) _ _); first | refine XS.se0 (by walk_at "fm") nd (by walk_at "at") (by walk_at "loc") ?_ (by walk_at "rr") (by walk_at "fn") | refine XS.se1 (by walk_at "fm") nd (by walk_at "at") (by walk_at "loc") (by decide) ?_ (by walk_at "rr") (by walk_at "fn")) | ((with_reducible show XS _ _ (Stmt.Assign [Expr.Tuple [_, _] _ _] _ _) _ _); first | refine XS.p2 (by walk_at "fm") nd (by walk_at "at") (by walk_at "at") (by decide) (by rfl) (by rfl) ?_ (by walk_at "rr") (by walk_at "rr") (by walk_at "rr") (by walk_at "rr") | refine XS.as ?_ (by walk_at "rr") (by walk_at "rr") (by walk_at "rr")) | ((with_reducible show XS _ _ (Stmt.Assign [Expr.Tuple [_, _, _] _ _] _ _) _ _); first | refine XS.p3 (by walk_at "fm") nd (by walk_at "at") (by walk_at "at") (by walk_at "at") (by decide) (by decide) (by decide) (by rfl) (by rfl) (by rfl) ?_ (by walk_at "rr") (by walk_at "rr") (by walk_at "rr") (by walk_at "rr") (by walk_at "rr") | refine XS.as ?_ (by walk_at "rr") (by walk_at "rr") (by walk_at "rr")) | ((with_reducible show XS _ _ (Stmt.Assign [Expr.Tuple _ _ _] _ _) _ _); refine XS.as ?_ (by walk_at "rr") (by walk_at "rr") (by walk_at "rr")) | ((with_reducible show XS _ _ (Stmt.Expr (Expr.Call (Expr.Name _ _) _ _ _) _) _ _); refine XS.ex ?_ (by walk_at "rr")) | ((with_reducible show XS _ _ (Stmt.Expr _ _) _ _); refine XS.ap (by walk_at "fm") (by walk_at "at") (by walk_at "vis") (by walk_at "side") ?_ (by rfl) (by rfl) (by walk_at "rr") (by walk_at "rr") (by walk_at "rr") (by rfl) (by walk_at "rr") (by walk_at "rr")) | ((with_reducible show XS _ _ (Stmt.Assign [Expr.Subscript _ _ _] _ _) _ _); refine XS.wl ?_ (by walk_at "rr2") (by walk_at "rr") (by walk_at "rr") (by walk_at "rr")))
local macro_rules | `(tactic| walk_at "mu2") => `(tactic| first | (refine XSs.cons (XS.pm (by walk_at "fm") nd (by walk_at "at") (by walk_at "at") (by decide) (by rfl) (by rfl) (Nat.le_of_ble_eq_true rfl) (XL.lst ?_) (by walk_at "rr") (by walk_at "rr") (by walk_at "rr") (by walk_at "rr"))))
local macro_rules | `(tactic| walk_at "mu") => `(tactic| first | (refine XSs.cons (XS.m (by walk_at "fm") nd (by walk_at "at") (by walk_at "loc") (Nat.le_of_ble_eq_true rfl) (XL.lst ?_) (by walk_at "rr") (by walk_at "fn"))))
local macro_rules | `(tactic| walk_at "kadd") => `(tactic| first | (refine .inl ⟨_, _, rfl, rfl, ?_⟩) | (refine .inr (.inl ⟨_, _, rfl, rfl, by walk_at "side", ?_⟩)) | (refine .inr (.inr (.inl ⟨_, _, rfl, rfl, by walk_at "side", ?_⟩))) | (refine .inr (.inr (.inr ⟨_, _, rfl, rfl, by walk_at "side", ?_⟩))))
local macro_rules | `(tactic| walk_at "keq") => `(tactic| first | (refine .inl ⟨_, _, rfl, rfl, ?_⟩) | (refine .inr (.inl ⟨_, _, rfl, rfl, ?_⟩)) | (refine .inr (.inr ⟨by rfl, by rfl, ?_⟩)))
local macro_rules | `(tactic| walk_at "kix") => `(tactic| first | (refine .inl ⟨_, _, _, .inl rfl, rfl, by rfl, ?_⟩) | (refine .inl ⟨_, _, _, .inr rfl, rfl, by rfl, ?_⟩) | (refine ix_wel (by decide) (by decide) fun zw => ?_) | (refine ix_of (i := 0) (.inl rfl) rfl ?_) | (refine ix_of (i := 0) (.inr rfl) rfl ?_) | (refine ix_of (.inl rfl) (by assumption) ?_) | (refine ix_of (.inr rfl) (by assumption) ?_))
local macro_rules | `(tactic| walk_at "ksl") => `(tactic| first | (refine .inl ⟨_, rfl, ?_⟩) | (refine .inr (.inl ⟨_, rfl, ?_⟩)) | (refine .inr (.inr ⟨_, rfl, by walk_at "side", ?_⟩)))
local macro_rules | `(tactic| walk_at "klen") => `(tactic| first | (refine .inl ⟨_, .inl rfl, ?_⟩) | (refine .inl ⟨_, .inr rfl, ?_⟩) | (refine .inr ⟨_, rfl, by walk_at "side", ?_⟩))
local macro_rules | `(tactic| walk_at "kin") => `(tactic| first | (refine ⟨_, _, rfl, .inl ⟨_, .inl rfl, by rfl⟩, ?_⟩) | (refine ⟨_, _, rfl, .inl ⟨_, .inr rfl, by rfl⟩, ?_⟩) | (refine ⟨_, _, rfl, .inr rfl, ?_⟩))
local macro_rules | `(tactic| walk_at "kex") => `(tactic| first | (refine ⟨_, _, rfl, rfl, ?_⟩) | (refine ⟨_, rfl, ?_⟩))
local macro_rules | `(tactic| walk_at "kand") => `(tactic| first | (refine ⟨rfl, ?_⟩) | (refine ⟨by exact True.intro, ?_⟩) | (refine ⟨by walk_at "dts", Nat.le_of_ble_eq_true rfl, ?_⟩) | (refine ⟨by walk_at "side", ?_⟩))
local macro_rules | `(tactic| walk_at "kif") => `(tactic| first | (refine ifT (by decide) ?_) | (refine ifF (by decide) ?_) | (refine ifT rfl ?_) | (refine ifF rfl ?_))
local macro_rules | `(tactic| walk_at "1") => `(tactic| first | ((with_reducible show XSs _ _ _ _ _); walk_at "xss") | ((with_reducible show XS _ _ _ _ _); walk_at "xs") | ((with_reducible show XE _ _ _ _ _); walk_at "xe") | ((with_reducible show XT _ _ _ _ _); walk_at "xt") | ((with_reducible show XW _ _ _ _ _); walk_at "xw") | ((with_reducible show XA _ _ _ _ _); walk_at "xa") | ((with_reducible show XO _ _ _ _ _); walk_at "xo") | ((with_reducible show XTs _ _ _ _ _); walk_at "xts") | ((with_reducible show XG _ _ _ _ _ _ _); walk_at "xg") | ((with_reducible show XGs _ _ _ _ _ _ _); walk_at "xgs") | ((with_reducible show XI _ _ _ _ _ _); walk_at "xi") | ((with_reducible show AddK _ _ _); walk_at "kadd") | ((with_reducible show EqK _ _ _); walk_at "keq") | ((with_reducible show IxK _ _ _); walk_at "kix") | ((with_reducible show SlK _ _ _ _); walk_at "ksl") | ((with_reducible show LenK _ _); walk_at "klen") | ((with_reducible show InS _ _ _); walk_at "kin") | ((with_reducible show Exists _); walk_at "kex") | ((with_reducible show And _ _); walk_at "kand") | ((with_reducible show ite _ _ _); walk_at "kif"))
local macro_rules | `(tactic| walk_at "go") => `(tactic| repeat (walk_at "1"))
local macro_rules | `(tactic| walk_at "gi") => `(tactic| repeat ((with_reducible fail_if_success (show XE _ _ (Expr.IfExp _ _ _ _) _ _)); walk_at "1"))
local macro_rules | `(tactic| walk_at "gb") => `(tactic| repeat ((with_reducible fail_if_success (show XE _ _ (Expr.IfExp _ _ _ _) _ _)); (with_reducible fail_if_success (show XS _ _ (Stmt.Assign [Expr.Name _ _] (Expr.BinOp _ _ _ _) _) _ _)); walk_at "1"))
local macro_rules | `(tactic| walk_at "mc") => `(tactic| (refine XS.m (by walk_at "fm") nd (by walk_at "at") (by walk_at "loc") (Nat.le_of_ble_eq_true rfl) (XL.cat ?_) (by walk_at "rr") (by walk_at "fn")))
local macro_rules | `(tactic| walk_at "gr") => `(tactic| repeat ((with_reducible fail_if_success (show XSs _ _ [Stmt.Return _ _] _ _)); walk_at "1"))
local macro_rules | `(tactic| walk_at "gt") => `(tactic| repeat ((with_reducible fail_if_success (show XE _ _ (Expr.IfExp _ _ _ _) _ _)); (with_reducible fail_if_success (show XT _ _ (Expr.BoolOp _ _ _) _ _)); walk_at "1"))
local macro_rules | `(tactic| walk_at "gn") => `(tactic| repeat ((with_reducible fail_if_success (show XT _ _ (Expr.Compare _ [CmpOp.In] _ _) _ _)); (with_reducible fail_if_success (show XE _ _ (Expr.Compare _ [CmpOp.In] _ _) _ _)); walk_at "1"))
def spPut : Sc := fun ds k => ∃ (xs : List PyData) (i : Nat) (v : PyData), ds = [.tuple xs, I i, v] ∧ i < xs.length ∧ xs.length ≤ 1000 ∧ Dt v ∧ k (.tuple (xs.set i v))
theorem put_eq {xs : List PyData} {i : Nat} {v : PyData} (h : i < xs.length) : cutD xs none (some (i : Int)) ++ [v] ++ cutD xs (some ((i : Int) + 1)) none = xs.set i v := by
  rw [cut_to (by omega), show ((i : Int) + 1) = ((i + 1 : Nat) : Int) by omega, cut_from (by omega)]
  rw [List.set_eq_take_append_cons_drop, if_pos h]
  simp
def spDraw : Sc := fun ds k => ∃ m : Int, ds = [wel, .int m] ∧ 0 < m ∧ m < 1073741824 ∧ ∀ r : Nat, (r : Int) < m → k (I r)
def spPick : Sc := fun ds k => ∃ xs, ds = [wel, .list xs] ∧ xs ≠ [] ∧ xs.length ≤ 1000 ∧ ∀ d ∈ xs, k d
def opsD : List PyData := [.str "add", .str "sub", .str "and", .str "or", .str "xor", .str "left", .str "right"]
def spOps : Sc := fun ds k => ds = [] ∧ k (.list opsD)
section
variable {P : Program} {w : World} {K : PySem.W.Frag} {mg : Str → Option Value} {base : Heap}
theorem c_put (M : Md w K mg) : CLPut P w K mg base 1 spPut := by
  refine goLPut M ?_ ?_
  · rintro ds k0 ⟨xs, i, v, rfl, _⟩
    rfl
  · intro f cdv A outer s H E fm nd ds k0 h
    obtain ⟨xs, i, v, rfl, hi, hx, hv, hk⟩ := h
    have l1 := cutD_len xs none (some (i : Int))
    have l2 := cutD_len xs (some ((i : Int) + 1)) none
    rw [← put_eq hi] at hk
    walk_at "go"
    exact hk
theorem c_ops (M : Md w K mg) : CLOps P w K mg base 1 spOps := by
  refine goLOps M ?_ ?_
  · rintro ds k0 ⟨rfl, _⟩
    rfl
  · intro f cdv A outer s H E fm nd ds k0 h
    obtain ⟨rfl, hk⟩ := h
    walk_at "go"
    exact hk
theorem c_draw (M : Md w K mg) : CLDraw P w K mg base 1 spDraw := by
  refine goLDraw M ?_ ?_
  · rintro ds k0 ⟨m, rfl, _⟩
    rfl
  · intro f cdv A outer s H E fm nd ds k0 h
    obtain ⟨m, rfl, h0, h1, hk⟩ := h
    have fin : ∀ i : Int, k0 (.int (i % m)) := fun i => by
      have a := Int.emod_nonneg i (show m ≠ 0 by omega)
      have b := Int.emod_lt_of_pos i h0
      have e : (((i % m).toNat : Nat) : Int) = i % m := Int.toNat_of_nonneg a
      have z := hk (i % m).toNat (by rw [e]; exact b)
      rw [show I (i % m).toNat = .int (i % m) by rw [← e]; rfl] at z
      exact z
    walk_at "go"
    refine ifd (fun h => ?_) (fun h => ?_)
    · walk_at "go"
      exact fin _
    · walk_at "go"
      exact fin _
end
theorem pickI {k : PyData → Prop} (ys : List Nat) (h0 : ys ≠ []) (hl : ys.length ≤ 1000) (b : Nat) (hb : ∀ y ∈ ys, y ≤ b) (h : ∀ y : Nat, y ≤ b → k (I y)) : spPick [wel, .list (ys.map I)] k := by
  refine ⟨_, rfl, by simpa using h0, by simpa using hl, fun d hd => ?_⟩
  obtain ⟨y, hy, rfl⟩ := List.mem_map.mp hd
  exact h y (hb y hy)
def spWords : Sc := fun ds k => ∃ many far : Nat, ds = [wel, I many, I far] ∧ many ≤ 100 ∧ far ≤ 100 ∧ ∀ ws, Wds ws → ws.length = many → k (Ts ws)
section
variable {P : Program} {w : World} {K : PySem.W.Frag} {mg : Str → Option Value} {base : Heap}
theorem c_pick (M : Md w K mg) (cd : CLDraw P w K mg base 1 spDraw) : CLPick P w K mg base 2 spPick := by
  refine goLPick M ?_ ?_
  · rintro ds k0 ⟨m, rfl, _⟩
    rfl
  · intro f cdv A outer s H E fm nd ds k0 h
    obtain ⟨xs, rfl, h0, h1, hk⟩ := h
    walk_at "go"
    have hp : 0 < xs.length := List.length_pos_iff.mpr h0
    refine ⟨_, rfl, by omega, by omega, fun r hr => ?_⟩
    have hr : r < xs.length := by omega
    refine ix_of (.inr rfl) (List.getElem?_eq_getElem hr) ?_
    exact hk _ (List.getElem_mem hr)
theorem c_words (M : Md w K mg) (cd : CLDraw P w K mg base 1 spDraw) (cp : CLPick P w K mg base 2 spPick) : CLWords P w K mg base 3 spWords := by
  refine goLWords M ?_ ?_
  · rintro ds k0 ⟨m, n, rfl, _⟩
    rfl
  · intro f cdv A outer s H E fm nd ds k0 h
    obtain ⟨many, far, rfl, h0, h1, hk⟩ := h
    walk_at "mu"
    walk_at "go"
    refine XS.for fm [4] (fun i s' => ∃ ws o1 o2 o3, s' = ([some wel, some (I many), some (I far), none, o1, o2, o3], some (3, List.map I ws)) ∧ ws.length = i ∧ Wds ws) (by walk_at "rr2") ?_
    walk_at "go"
    refine ⟨⟨[], none, none, none, rfl, rfl, fun _ z => nomatch z⟩, fun i d δ' m' hd hP => ?_, fun δ' m' hP => ?_⟩
    · obtain ⟨hi, rfl⟩ := rngD_get hd
      obtain ⟨ws, o1, o2, o3, hs, hl, hw⟩ := hP
      cases hs
      refine ⟨fun q e => ?_, ?_⟩
      · cases e
        exact fun z => by cases List.mem_singleton.mp z
      walk_at "go"
      refine ⟨_, rfl, by decide, by decide, fun r1 h1 => ?_⟩
      walk_at "go"
      obtain ⟨x, ex, hx⟩ : ∃ x : Nat, (if (far : Int) - 2 + (r1 : Int) > 0 then (far : Int) - 2 + (r1 : Int) else 0) = (x : Int) ∧ x ≤ 200 := ⟨((if (far : Int) - 2 + (r1 : Int) > 0 then (far : Int) - 2 + (r1 : Int) else 0)).toNat, by split <;> omega, by split <;> omega⟩
      rw [ex]
      walk_at "go"
      refine ⟨_, rfl, by decide, by decide, fun r2 h2 => ?_⟩
      walk_at "go"
      refine ⟨_, rfl, by decide, by decide, fun r3 h3 => ?_⟩
      walk_at "go"
      refine ⟨_, rfl, by decide, by decide, fun r4 h4 => ?_⟩
      walk_at "go"
      refine ⟨_, rfl, by decide, by decide, fun r5 h5 => ?_⟩
      refine ⟨_, _, rfl, rfl, ?_⟩
      rw [show (65535 : Int) - (r5 : Int) = ((65535 - r5 : Nat) : Int) by omega]
      walk_at "go"
      refine pickI [r2, x, r3, r2, x, r3, r4, 65535 - r5] (by simp) (by simp) 65535 (by simp; omega) fun y hy => ?_
      walk_at "go"
      refine ⟨ws ++ [y], _, _, _, by rw [List.map_append]; rfl, by simp [hl], ?_⟩
      intro z hz
      rcases List.mem_append.mp hz with h | h
      · exact hw z h
      · rw [List.mem_singleton.mp h]
        omega
    · obtain ⟨ws, o1, o2, o3, hs, hl, hw⟩ := hP
      cases hs
      rw [rngD_len] at hl
      refine XSs.fr ?_
      walk_at "go"
      exact hk ws hw (by omega)
end
def spBytes : Sc := fun ds k => ∃ many : Nat, ds = [wel, I many] ∧ many ≤ 900 ∧ ∀ ws : List Nat, (∀ x ∈ ws, x < 256) → ws.length = many → k (Ts ws)
def spCells : Sc := fun ds k => ∃ kd, ds = [wel, kd] ∧ ∃ (s : Str) (m c : Nat), kd = .tuple [.str s, I m, I c] ∧ (s = "array" ∨ s = "pairs") ∧ m ≤ 1 ∧ 1 ≤ c ∧ c ≤ 16 ∧ ∀ t : Tab, t.Ok → t.enc = .tuple [.str s, I m, t.rows] → k t.rows
def spKinds : Sc := fun ds k => ds = [wel] ∧ ∀ ks, ks.length ≤ 3 → (∀ q ∈ ks, KindOk q) → k (.tuple ks)
def spGrant : Sc := fun ds k => ds = [wel] ∧ ∀ d, GrantOk d → k d
def spBegun : Sc := fun ds k => ∃ (pk : List Nat) (tb : List Tab) (clk wr : Nat), ds = [Ts pk, .tuple (tb.map Tab.enc), I clk, I wr] ∧ pk.length ≤ 1000 ∧ (∀ x ∈ pk, x < 256) ∧ tb.length ≤ 100 ∧ (∀ t ∈ tb, t.Ok) ∧ clk < 65536 ∧
  ∀ r : Run, r.Ok → r.p = 0 → r.cn = [0, 0, 0, 0] → r.n = 0 → r.e = .none → k r.enc
def spFitting : Sc := fun ds k => ∃ g, ds = [wel, g] ∧ GrantOk g ∧ ∀ r : Run, r.Ok → r.p = 0 → r.cn = [0, 0, 0, 0] → r.n = 0 → r.e = .none → k r.enc
theorem dt_Ts (ws : List Nat) : Dt (Ts ws) := True.intro
section
variable {P : Program} {w : World} {K : PySem.W.Frag} {mg : Str → Option Value} {base : Heap}
theorem c_bytes (M : Md w K mg) (cd : CLDraw P w K mg base 1 spDraw) (cp : CLPick P w K mg base 2 spPick) : CLBytes P w K mg base 3 spBytes := by
  refine goLBytes M ?_ ?_
  · rintro ds k0 ⟨m, rfl, _⟩
    rfl
  · intro f cdv A outer s H E fm nd ds k0 h
    obtain ⟨many, rfl, h0, hk⟩ := h
    walk_at "mu"
    walk_at "go"
    refine XS.for fm [3] (fun i s' => ∃ ws o1, s' = ([some wel, some (I many), none, o1], some (2, List.map I ws)) ∧ ws.length = i ∧ ∀ x ∈ ws, x < 256) (by walk_at "rr2") ?_
    walk_at "go"
    refine ⟨⟨[], none, rfl, rfl, fun _ z => nomatch z⟩, fun i d δ' m' hd hP => ?_, fun δ' m' hP => ?_⟩
    · obtain ⟨hi, rfl⟩ := rngD_get hd
      obtain ⟨ws, o1, hs, hl, hw⟩ := hP
      cases hs
      refine ⟨fun q e => ?_, ?_⟩
      · cases e
        exact fun z => by cases List.mem_singleton.mp z
      walk_at "go"
      refine ⟨_, rfl, by decide, by decide, fun r1 h1 => ?_⟩
      walk_at "go"
      refine pickI [0, 1, 8, 255, r1] (by simp) (by simp) 255 (by simp; omega) fun y hy => ?_
      walk_at "go"
      refine ⟨ws ++ [y], _, by rw [List.map_append]; rfl, by simp [hl], ?_⟩
      intro z hz
      rcases List.mem_append.mp hz with h | h
      · exact hw z h
      · rw [List.mem_singleton.mp h]
        omega
    · obtain ⟨ws, o1, hs, hl, hw⟩ := hP
      cases hs
      rw [rngD_len] at hl
      refine XSs.fr ?_
      walk_at "go"
      exact hk ws hw (by omega)
theorem c_cells (M : Md w K mg) (cd : CLDraw P w K mg base 1 spDraw) (cw : CLWords P w K mg base 3 spWords) : CLCells P w K mg base 4 spCells := by
  refine goLCells M ?_ ?_
  · rintro ds k0 ⟨m, rfl, _⟩
    rfl
  · intro f cdv A outer s H E fm nd ds k0 h
    obtain ⟨kd, rfl, s, m, c, rfl, h0, h1, h2, h3, hk⟩ := h
    walk_at "mu2"
    walk_at "go"
    refine ifd (fun h => ?_) (fun h => ?_)
    · walk_at "go"
      refine ⟨c, 9, rfl, by omega, by omega, fun ws hw hl => ?_⟩
      exact hk (.arr m ws) ⟨hw, by omega⟩ (by rw [h]; rfl)
    · have hs : s = "pairs" := h0.resolve_left h
      walk_at "go"
      refine XS.for fm [4] (fun i s' => ∃ (ps : List (Nat × Nat)) (o1 : Option PyData) (z : Int), s' = ([some wel, some (.tuple [.str s, I m, I c]), none, some (.int z), o1], some (2, ps.map fun q => .tuple [I q.1, I q.2])) ∧ -1 ≤ z ∧ ps.length = i ∧ ∀ q ∈ ps, q.2 < 65536) (by walk_at "rr2") ?_
      walk_at "go"
      refine ⟨_, rfl, by omega, by omega, fun r1 hr1 => ?_⟩
      refine ⟨_, rfl, by omega, by omega, ?_⟩
      refine ⟨⟨[], none, -1, rfl, by decide, rfl, fun _ z => nomatch z⟩, fun i d δ' m' hd hP => ?_, fun δ' m' hP => ?_⟩
      · obtain ⟨hi, rfl⟩ := rngD_get hd
        obtain ⟨ws, o1, z, e, hz, hl, hw⟩ := hP
        cases e
        refine ⟨fun q e => ?_, ?_⟩
        · cases e
          exact fun z => by cases List.mem_singleton.mp z
        walk_at "go"
        refine ⟨_, rfl, by decide, by decide, fun r2 h2 => ?_⟩
        walk_at "go"
        refine ⟨_, rfl, by decide, by decide, fun r3 h3 => ?_⟩
        walk_at "go"
        refine ⟨ws ++ [((z + 1 + r2).toNat, r3)], _, _, by
          rw [List.map_append]
          have e : I (z + 1 + r2).toNat = .int (z + 1 + r2) := congrArg PyData.int (Int.toNat_of_nonneg (by omega))
          simp only [List.map_cons, List.map_nil, e]
          rfl, by omega, by simp [hl], ?_⟩
        intro z hz
        rcases List.mem_append.mp hz with h | h
        · exact hw z h
        · rw [List.mem_singleton.mp h]
          show r3 < 65536
          omega
      · obtain ⟨ws, o1, z, e, hz, hl, hw⟩ := hP
        cases e
        rw [rngD_len] at hl
        refine XSs.fr ?_
        walk_at "go"
        exact hk (.prs m ws) ⟨hw, by omega⟩ (by rw [hs]; rfl)
theorem c_kinds (M : Md w K mg) (cp : CLPick P w K mg base 2 spPick) : CLKinds P w K mg base 3 spKinds := by
  refine goLKinds M ?_ ?_
  · rintro ds k0 ⟨rfl, _⟩
    rfl
  · intro f cdv A outer s H E fm nd ds k0 h
    obtain ⟨rfl, hk⟩ := h
    walk_at "mu"
    walk_at "go"
    refine XS.for fm [2] (fun i s' => ∃ ks o1 o2 o3, s' = ([some wel, none, o1, o2, o3], some (1, ks)) ∧ ks.length = i ∧ (∀ q ∈ ks, KindOk q) ∧ i ≤ 3) (by walk_at "rr2") ?_
    walk_at "go"
    refine pickI [2, 1, 3, 2, 0] (by simp) (by simp) 3 (by simp) fun y hy => ?_
    refine ⟨_, rfl, by omega, by omega, ?_⟩
    refine ⟨⟨[], none, none, none, rfl, rfl, fun _ z => (nomatch z), by decide⟩, fun i d δ' m' hd hP => ?_, fun δ' m' hP => ?_⟩
    · obtain ⟨hi, rfl⟩ := rngD_get hd
      obtain ⟨ws, o1, o2, o3, e, hl, hw, hi3⟩ := hP
      cases e
      refine ⟨fun q e => ?_, ?_⟩
      · cases e
        exact fun z => by cases List.mem_singleton.mp z
      walk_at "go"
      refine ⟨_, rfl, by simp, by simp, fun d hd => ?_⟩
      obtain ⟨sr, rfl, hsr⟩ : ∃ sr : Str, d = .str sr ∧ (sr = "array" ∨ sr = "pairs") := by
        rcases List.mem_cons.mp hd with h | h
        · exact ⟨_, h, .inl rfl⟩
        · exact ⟨_, List.mem_singleton.mp h, .inr rfl⟩
      walk_at "go"
      refine ⟨_, rfl, by simp, by simp, fun d hd => ?_⟩
      obtain ⟨c, rfl, hc⟩ : ∃ c : Nat, d = I c ∧ 1 ≤ c ∧ c ≤ 16 := by
        have hd' : d ∈ [4, 8, 5, 1, 16, 3].map I := hd
        obtain ⟨c, hc, rfl⟩ := List.mem_map.mp hd'
        refine ⟨c, rfl, ?_⟩
        simp at hc
        omega
      walk_at "go"
      refine pickI [1, 1, 0] (by simp) (by simp) 1 (by simp) fun y2 hy2 => ?_
      walk_at "go"
      refine ⟨ws ++ [.tuple [.str sr, I y2, I c]], _, _, _, rfl, by simp [hl], ?_, by omega⟩
      intro z hz
      rcases List.mem_append.mp hz with h | h
      · exact hw z h
      · rw [List.mem_singleton.mp h]
        exact ⟨_, _, _, rfl, hsr, hy2, hc.1, hc.2⟩
    · obtain ⟨ws, o1, o2, o3, e, hl, hw, hi3⟩ := hP
      cases e
      rw [rngD_len] at hl hi3
      refine XSs.fr ?_
      walk_at "go"
      exact hk ws (by omega) hw
theorem c_grant (M : Md w K mg) (cd : CLDraw P w K mg base 1 spDraw) (cp : CLPick P w K mg base 2 spPick) (ck : CLKinds P w K mg base 3 spKinds) : CLGrant P w K mg base 4 spGrant := by
  refine goLGrant M ?_ ?_
  · rintro ds k0 ⟨rfl, _⟩
    rfl
  · intro f cdv A outer s H E fm nd ds k0 h
    obtain ⟨rfl, hk⟩ := h
    walk_at "go"
    refine ⟨_, rfl, by decide, by decide, fun r1 h1 => ?_⟩
    walk_at "go"
    refine pickI [0, 4, 14, 20, 1, r1] (by simp) (by simp) 60 (by simp; omega) fun a ha => ?_
    walk_at "go"
    refine pickI [0, 3, 40, 20] (by simp) (by simp) 60 (by simp) fun b hb => ?_
    walk_at "go"
    refine pickI [1, 1, 0] (by simp) (by simp) 1 (by simp) fun c hc => ?_
    walk_at "go"
    refine ⟨rfl, fun ks hl hks => ?_⟩
    walk_at "go"
    exact hk _ ⟨a, a + b, c, ks, rfl, by omega, by omega, hc, hl, hks⟩
theorem c_begun (M : Md w K mg) : CLBegun P w K mg base 1 spBegun := by
  refine goLBegun M ?_ ?_
  · rintro ds k0 ⟨pk, tb, clk, wr, rfl, _⟩
    rfl
  · intro f cdv A outer s H E fm nd ds k0 h
    obtain ⟨pk, tb, clk, wr, rfl, h1, h2, h3, h4, h5, hk⟩ := h
    walk_at "go"
    refine hk ⟨List.replicate 8 0, List.replicate 16 0, [0, 0, 0, 0], 0, pk, tb, clk, 0, .none, wr⟩ ⟨rfl, fun x hx => ?_, rfl, fun x hx => ?_, rfl, h1, h2, h3, h4, h5, .inl rfl⟩ rfl rfl rfl rfl
    · rw [List.eq_of_mem_replicate hx]
      decide
    · rw [List.eq_of_mem_replicate hx]
      decide
theorem c_fitting (M : Md w K mg) (cd : CLDraw P w K mg base 1 spDraw) (cp : CLPick P w K mg base 2 spPick) (cb : CLBytes P w K mg base 3 spBytes) (cc : CLCells P w K mg base 4 spCells) (cg : CLBegun P w K mg base 1 spBegun) : CLFitting P w K mg base 5 spFitting := by
  refine goLFitting M ?_ ?_
  · rintro ds k0 ⟨g, rfl, _⟩
    rfl
  · intro f cdv A outer s H E fm nd ds k0 h
    obtain ⟨g, rfl, ⟨a, b, wr, ks, rfl, hab, hb, hw, hks, hk1⟩, hk⟩ := h
    walk_at "go"
    rw [show (b : Int) - (a : Int) = ((b - a : Nat) : Int) by omega]
    walk_at "go"
    refine ⟨_, rfl, by omega, by omega, fun r1 h1 => ?_⟩
    walk_at "go"
    refine pickI [0, b - a, r1] (by simp) (by simp) (b - a) (by simp; omega) fun x hx => ?_
    walk_at "go"
    refine ⟨a + x, rfl, by omega, fun pk hpk hpl => ?_⟩
    walk_at "mu"
    walk_at "go"
    refine XS.for fm [5] (fun i s' => ∃ (tb : List Tab) (o1 : Option PyData), s' = ([some wel, some (.tuple [I a, I b, I wr, .tuple ks]), some (I (b - a)), some (Ts pk), none, o1], some (4, tb.map Tab.enc)) ∧ tb.length = i ∧ (∀ t ∈ tb, t.Ok)) (by walk_at "rr2") ?_
    refine XI.tup fm ?_
    walk_at "go"
    refine ⟨⟨[], none, rfl, rfl, fun _ z => nomatch z⟩, fun i d δ' m' hd hP => ?_, fun δ' m' hP => ?_⟩
    · obtain ⟨tb, o1, e, hl, ht⟩ := hP
      cases e
      obtain ⟨ks1, m, c, rfl, h2, h3, h4, h5⟩ := hk1 d (List.mem_of_getElem? hd)
      have hi : i < ks.length := by
        by_cases h : i < ks.length
        · exact h
        · rw [List.getElem?_eq_none (by omega)] at hd
          cases hd
      refine ⟨fun q e => ?_, ?_⟩
      · cases e
        exact fun z => by cases List.mem_singleton.mp z
      walk_at "go"
      refine ⟨_, rfl, ks1, m, c, rfl, h2, h3, h4, h5, fun t ht1 ht2 => ?_⟩
      have dt : Dt t.rows := by cases t <;> exact True.intro
      walk_at "go"
      refine ⟨tb ++ [t], _, by rw [List.map_append, List.map_cons, List.map_nil, ht2]; rfl, by simp [hl], ?_⟩
      intro z hz
      rcases List.mem_append.mp hz with h | h
      · exact ht z h
      · rw [List.mem_singleton.mp h]
        exact ht1
    · obtain ⟨tb, o1, e, hl, ht⟩ := hP
      cases e
      refine XSs.fr ?_
      walk_at "go"
      refine ⟨_, rfl, by decide, by decide, fun r2 h2 => ?_⟩
      walk_at "go"
      exact ⟨pk, tb, r2, wr, rfl, by omega, hpk, by omega, ht, by omega, hk⟩
end
/-- k of any m good rows at most -/
def RowsK (m : Nat) (k : PyData → Prop) : Prop := ∀ rs : List Row, rs.length ≤ m → (∀ r ∈ rs, r.Ok) → k (.list (rs.map Row.enc))
theorem all_nil {p : Row → Prop} : ∀ r ∈ ([] : List Row), p r := fun _ z => nomatch z
theorem all_cons {p : Row → Prop} {r : Row} {rs : List Row} (h : p r) (t : ∀ r ∈ rs, p r) : ∀ q ∈ r :: rs, p q := fun q m => by
  rcases List.mem_cons.mp m with z | m
  · rw [z]
    exact h
  · exact t q m
def spGuarded : Sc := fun ds k => ∃ (a : Nat) (g : PyData), ds = [wel, I a, g] ∧ a ≤ 100 ∧ GrantOk g ∧ RowsK 4 k
def spMasked : Sc := fun ds k => ∃ (a : Nat), ds = [wel, I a] ∧ a ≤ 100 ∧ RowsK 4 k
def spOn : Sc := fun ds k => ∃ (a t : Nat) (kd : PyData), ds = [wel, I a, I t, kd] ∧ a ≤ 100 ∧ t < 6 ∧ KindOk kd ∧ RowsK 3 k
def spSome : Sc := fun ds k => ∃ (a : Nat), ds = [wel, I a] ∧ a ≤ 100 ∧ RowsK 2 k
section
variable {P : Program} {w : World} {K : PySem.W.Frag} {mg : Str → Option Value} {base : Heap}
theorem c_guarded (M : Md w K mg) (cd : CLDraw P w K mg base 1 spDraw) (cp : CLPick P w K mg base 2 spPick) : CLGuarded P w K mg base 3 spGuarded := by
  refine goLGuarded M ?_ ?_
  · rintro ds k0 ⟨a, g, rfl, _⟩
    rfl
  · intro f cdv A outer s H E fm nd ds k0 h
    obtain ⟨at_, g, rfl, hat, ⟨ga, gb, wr, ks, rfl, hab, hb, hw, hks, hk1⟩, hk⟩ := h
    walk_at "go"
    refine ⟨_, rfl, by decide, by decide, fun r1 h1 => ?_⟩
    walk_at "go"
    refine ⟨_, rfl, by simp, by simp, fun d hd => ?_⟩
    obtain ⟨sn, z, rfl, hsn, hz⟩ : ∃ (sn : Str) (z : Nat), d = .tuple [.str sn, I z] ∧ (sn = "byte" ∨ sn = "pair" ∨ sn = "write") ∧ z ≤ 2 := by
      simp only [List.mem_cons, List.mem_nil_iff, or_false] at hd
      rcases hd with rfl | rfl | rfl
      · exact ⟨_, 1, rfl, .inl rfl, by decide⟩
      · exact ⟨_, 2, rfl, .inr (.inl rfl), by decide⟩
      · exact ⟨_, 1, rfl, .inr (.inr rfl), by decide⟩
    clear hd
    walk_at "1"
    walk_at "1"
    refine XE.imp (k := fun d => ∃ (sn : Str) (z : Nat), d = .tuple [.str sn, I z] ∧ (sn = "byte" ∨ sn = "pair" ∨ sn = "write") ∧ z ≤ 2) ?_ ?_
    · walk_at "go"
      refine ifb (fun h => ?_) (fun h => ?_)
      · walk_at "go"
        refine ifb (fun h => ?_) (fun h => ?_)
        · walk_at "go"
          exact ⟨_, 1, rfl, .inl rfl, by decide⟩
        · walk_at "go"
          exact ⟨_, _, rfl, hsn, hz⟩
      · walk_at "go"
        exact ⟨_, _, rfl, hsn, hz⟩
    rintro d ⟨s1, z1, rfl, hs1, hz1⟩
    walk_at "go"
    refine ⟨_, rfl, by omega, by omega, fun r2 h2 => ?_⟩
    walk_at "go"
    refine pickI [0, 0, 1, 3] (by simp) (by simp) 3 (by simp) fun x hx => ?_
    walk_at "go"
    obtain ⟨fi, ef, hf⟩ : ∃ x1 : Nat, (if 2 + (r1 : Int) - (z1 : Int) - (r2 : Int) - (x : Int) > 0 then 2 + (r1 : Int) - (z1 : Int) - (r2 : Int) - (x : Int) else 0) = (x1 : Int) ∧ x1 < 65536 := ⟨(if 2 + (r1 : Int) - (z1 : Int) - (r2 : Int) - (x : Int) > 0 then 2 + (r1 : Int) - (z1 : Int) - (r2 : Int) - (x : Int) else 0).toNat, by split <;> omega, by split <;> omega⟩
    rw [ef]
    walk_at "go"
    refine ⟨_, rfl, by decide, by decide, fun r3 h3 => ?_⟩
    walk_at "go"
    refine ⟨_, rfl, by decide, by decide, fun r4 h4 => ?_⟩
    walk_at "go"
    refine ⟨_, rfl, by decide, by decide, fun r5 h5 => ?_⟩
    walk_at "go"
    refine hk [.plain "length" [I r3], .whenn "below" r3 (2 + r1) (at_ + 4), .plain "set" [I (2 + r4), I fi], .plain s1 [I r5, I (2 + r4), I r2]] (by simp) ?_
    refine all_cons (.length _ (by omega)) (all_cons ⟨by decide, by omega, by omega, by omega⟩ (all_cons (.set _ _ (by omega) (by omega)) (all_cons ?_ all_nil)))
    rcases hs1 with rfl | rfl | rfl
    · exact .byte _ _ _ (by omega) (by omega) (by omega)
    · exact .pair _ _ _ (by omega) (by omega) (by omega)
    · exact .write _ _ _ (by omega) (by omega) (by omega)
theorem c_masked (M : Md w K mg) (cd : CLDraw P w K mg base 1 spDraw) (cp : CLPick P w K mg base 2 spPick) : CLMasked P w K mg base 3 spMasked := by
  refine goLMasked M ?_ ?_
  · rintro ds k0 ⟨a, rfl, _⟩
    rfl
  · intro f cdv A outer s H E fm nd ds k0 h
    obtain ⟨at_, rfl, hat, hk⟩ := h
    walk_at "go"
    refine pickI [1, 3, 7, 15] (by simp) (by simp) 15 (by simp) fun mk hmk => ?_
    walk_at "go"
    refine ⟨_, rfl, by simp, by simp, fun d hd => ?_⟩
    obtain ⟨sn, z, rfl, hsn, hz⟩ : ∃ (sn : Str) (z : Nat), d = .tuple [.str sn, I z] ∧ (sn = "byte" ∨ sn = "pair") ∧ z ≤ 2 := by
      simp only [List.mem_cons, List.mem_nil_iff, or_false] at hd
      rcases hd with rfl | rfl
      · exact ⟨_, 1, rfl, .inl rfl, by decide⟩
      · exact ⟨_, 2, rfl, .inr rfl, by decide⟩
    walk_at "go"
    refine ⟨_, rfl, by decide, by decide, fun r1 h1 => ?_⟩
    walk_at "go"
    refine ⟨_, rfl, by decide, by decide, fun r2 h2 => ?_⟩
    walk_at "go"
    refine ⟨_, rfl, by decide, by decide, fun r3 h3 => ?_⟩
    walk_at "go"
    refine ⟨_, rfl, by decide, by decide, fun r4 h4 => ?_⟩
    walk_at "go"
    refine hk [.plain "length" [I r2], .whenn "below" r2 (mk + r1 + z) (at_ + 4), .plain "andn" [I (2 + r3), I mk], .plain sn [I r4, I (2 + r3), I r1]] (by simp) ?_
    refine all_cons (.length _ (by omega)) (all_cons ⟨by decide, by omega, by omega, by omega⟩ (all_cons (.opn _ _ _ (by decide) (by omega) (by omega)) (all_cons ?_ all_nil)))
    rcases hsn with rfl | rfl
    · exact .byte _ _ _ (by omega) (by omega) (by omega)
    · exact .pair _ _ _ (by omega) (by omega) (by omega)
theorem c_below (M : Md w K mg) (cd : CLDraw P w K mg base 1 spDraw) : CLBelow P w K mg base 2 spMasked := by
  refine goLBelow M ?_ ?_
  · rintro ds k0 ⟨a, rfl, _⟩
    rfl
  · intro f cdv A outer s H E fm nd ds k0 h
    obtain ⟨at_, rfl, hat, hk⟩ := h
    walk_at "go"
    refine ⟨_, rfl, by decide, by decide, fun r1 h1 => ?_⟩
    walk_at "go"
    refine ⟨_, rfl, by decide, by decide, fun r2 h2 => ?_⟩
    walk_at "go"
    refine ⟨_, rfl, by decide, by decide, fun r3 h3 => ?_⟩
    walk_at "go"
    refine hk [.plain "length" [I r1], .when "from" (2 + r2) r1 (at_ + 3), .plain "byte" [I r3, I (2 + r2), I 0]] (by simp) ?_
    exact all_cons (.length _ (by omega)) (all_cons ⟨by decide, by omega, by omega, by omega⟩ (all_cons (.byte _ _ _ (by omega) (by omega) (by omega)) all_nil))
theorem c_on_pairs (M : Md w K mg) (cd : CLDraw P w K mg base 1 spDraw) (cp : CLPick P w K mg base 2 spPick) : CLOnPairs P w K mg base 3 spOn := by
  refine goLOnPairs M ?_ ?_
  · rintro ds k0 ⟨a, t, kd, rfl, _⟩
    rfl
  · intro f cdv A outer s H E fm nd ds k0 h
    obtain ⟨at_, t, kd, rfl, hat, ht, ⟨ks, m, c, rfl, hks, hm, hc, hc2⟩, hk⟩ := h
    walk_at "go"
    refine ⟨_, rfl, by decide, by decide, fun r1 h1 => ?_⟩
    walk_at "go"
    refine ⟨_, rfl, by decide, by decide, fun r2 h2 => ?_⟩
    walk_at "go"
    refine ⟨_, rfl, by decide, by decide, fun r3 h3 => ?_⟩
    walk_at "gi"
    refine XE.imp (k := fun d => ∃ xs, d = .list xs ∧ xs ≠ [] ∧ xs.length ≤ 10 ∧ ∀ x ∈ xs, x = .str "value" ∨ x = .str "change") ?_ ?_
    · walk_at "go"
      refine ifb (fun h => ?_) (fun h => ?_)
      · walk_at "go"
        first | exact ⟨by simp, by simp, by simp⟩ | simp
      · walk_at "go"
        first | exact ⟨by simp, by simp, by simp⟩ | simp
    rintro d ⟨xs, rfl, hx1, hx2, hx3⟩
    walk_at "go"
    refine ⟨_, rfl, hx1, by omega, fun d hd => ?_⟩
    obtain ⟨sn, rfl, hsn⟩ : ∃ sn : Str, d = .str sn ∧ (sn = "value" ∨ sn = "change") := by
      rcases hx3 d hd with h | h
      · exact ⟨_, h, .inl rfl⟩
      · exact ⟨_, h, .inr rfl⟩
    walk_at "go"
    refine ⟨_, rfl, by decide, by decide, fun r4 h4 => ?_⟩
    walk_at "go"
    refine ix_of (.inr rfl) (d := .str (if r3 = 0 then "same" else "below")) ?_ ?_
    · rcases (by omega : r3 = 0 ∨ r3 = 1) with rfl | rfl <;> rfl
    walk_at "go"
    refine hk [.plain "find" [I r2, I t, I r1], .whenn (if r3 = 0 then "same" else "below") r2 r3 (at_ + 3), .plain sn [I r4, I t, I r2]] (by simp) ?_
    refine all_cons (.find _ _ _ (by omega) (by omega) (by omega)) (all_cons ⟨?_, by omega, by omega, by omega⟩ (all_cons ?_ all_nil))
    · rcases (by omega : r3 = 0 ∨ r3 = 1) with rfl | rfl <;> decide
    · rcases hsn with rfl | rfl
      · exact .value _ _ _ (by omega) (by omega) (by omega)
      · exact .change _ _ _ (by omega) (by omega) (by omega)
theorem c_on_cells (M : Md w K mg) (cd : CLDraw P w K mg base 1 spDraw) (cp : CLPick P w K mg base 2 spPick) : CLOnCells P w K mg base 3 spOn := by
  refine goLOnCells M ?_ ?_
  · rintro ds k0 ⟨a, t, kd, rfl, _⟩
    rfl
  · intro f cdv A outer s H E fm nd ds k0 h
    obtain ⟨at_, t, kd, rfl, hat, ht, ⟨ks, m, c, rfl, hks, hm, hc, hc2⟩, hk⟩ := h
    walk_at "go"
    refine ⟨_, rfl, by decide, by decide, fun r1 h1 => ?_⟩
    walk_at "gi"
    refine XE.imp (k := fun d => ∃ xs, d = .list xs ∧ xs ≠ [] ∧ xs.length ≤ 10 ∧ ∀ x ∈ xs, ∃ (o : Str) (ys : List PyData), x = (Row.plain o ys).enc ∧ PlainOk o ys) ?_ ?_
    · have hall : ∀ x ∈ [(Row.plain "cell" [I 4, I t, I r1]).enc, (Row.plain "fill" [I 4, I t, I r1]).enc, (Row.plain "count" [I t, I r1]).enc], ∃ (o : Str) (ys : List PyData), x = (Row.plain o ys).enc ∧ PlainOk o ys := by
        intro x hx
        simp only [List.mem_cons, List.mem_nil_iff, or_false] at hx
        rcases hx with rfl | rfl | rfl
        · exact ⟨_, _, rfl, .cell _ _ _ (by omega) (by omega) (by omega)⟩
        · exact ⟨_, _, rfl, .fill _ _ _ (by omega) (by omega) (by omega)⟩
        · exact ⟨_, _, rfl, .count _ _ (by omega) (by omega)⟩
      walk_at "go"
      refine ifb (fun h => ?_) (fun h => ?_)
      · walk_at "go"
        exact ⟨by simp, by simp, hall⟩
      · walk_at "go"
        refine ⟨List.cons_ne_nil (Row.plain "cell" [I 4, I t, I r1]).enc [], Nat.le_of_ble_eq_true rfl, fun x hx => hall x ?_⟩
        exact List.mem_cons.mpr (.inl (List.mem_singleton.mp hx))
    rintro d ⟨xs, rfl, hx1, hx2, hx3⟩
    walk_at "go"
    refine ⟨_, rfl, hx1, by omega, fun d hd => ?_⟩
    obtain ⟨o, ys, rfl, hok⟩ := hx3 d hd
    walk_at "go"
    refine XS.whil fm (fun q s' => ∃ mk : Nat, s' = ([some wel, some (I at_), some (I t), some (.tuple [.str ks, I m, I c]), some (I r1), some (I mk), s'.1.getD 6 none, some (Row.enc (.plain o ys))], none) ∧ mk ≤ 16 ∧ q = 20 - mk) ⟨_, 0, rfl, by decide, rfl⟩ ?_
    rintro q ⟨δ', m'⟩ ⟨mk, e, hmk, rfl⟩
    rw [e]
    clear e
    walk_at "go"
    refine ifd (fun h => ?_) (fun h => ?_)
    · walk_at "go"
      exact ⟨_, by omega, 2 * mk + 1, rfl, by omega, rfl⟩
    · walk_at "go"
      refine ⟨_, rfl, by decide, by decide, fun r2 h2 => ?_⟩
      walk_at "go"
      refine ifd (fun h => ?_) (fun h => ?_)
      · walk_at "go"
        exact hk [.whenn "from" r1 c (at_ + 2), .plain o ys] (by simp) (all_cons ⟨by decide, by omega, by omega, by omega⟩ (all_cons hok all_nil))
      · walk_at "go"
        exact hk [.plain "andn" [I r1, I mk], .plain o ys] (by simp) (all_cons (.opn _ _ _ (by decide) (by omega) (by omega)) (all_cons hok all_nil))
theorem c_some_rows (M : Md w K mg) (cd : CLDraw P w K mg base 1 spDraw) (cp : CLPick P w K mg base 2 spPick) (cw : CLWords P w K mg base 3 spWords) : CLSomeRows P w K mg base 4 spSome := by
  refine goLSomeRows M ?_ ?_
  · rintro ds k0 ⟨a, rfl, _⟩
    rfl
  · intro f cdv A outer s H E fm nd ds k0 h
    obtain ⟨at_, rfl, hat, hk⟩ := h
    walk_at "go"
    refine ⟨_, rfl, by decide, by decide, fun r1 h1 => ?_⟩
    walk_at "go"
    refine ⟨_, rfl, by decide, by decide, fun r2 h2 => ?_⟩
    walk_at "go"
    refine ⟨1, 9, rfl, by decide, by decide, fun ws hws hwl => ?_⟩
    obtain ⟨x, rfl⟩ : ∃ x, ws = [x] := by
      match ws, hwl with
      | [x], _ => exact ⟨x, rfl⟩
    have hx : x < 65536 := hws x List.mem_cons_self
    walk_at "go"
    refine ⟨_, rfl, by simp, by simp, fun d hd => ?_⟩
    obtain ⟨o, rfl, ho⟩ : ∃ o : Str, d = .str o ∧ o ∈ (["add", "and", "or", "xor", "left", "right"] : List Str) := by
      simp only [List.mem_cons, List.mem_nil_iff, or_false] at hd ⊢
      rcases hd with h | h | h | h | h | h <;> exact ⟨_, h, by simp⟩
    have hol : o.length ≤ 10 := by
      simp only [List.mem_cons, List.mem_nil_iff, or_false] at ho
      rcases ho with rfl | rfl | rfl | rfl | rfl | rfl <;> decide
    clear hd
    have hn : ("n" : Str).length = 1 := by decide
    walk_at "gi"
    refine XE.imp (k := fun d => ∃ z : Nat, d = I z ∧ z < 65536 ∧ (o ∈ (["left", "right"] : List Str) → z < 16)) ?_ ?_
    · walk_at "go"
      refine ifd (fun h => ?_) (fun h => ?_)
      · walk_at "go"
        refine ⟨show x % 16 < 65536 by omega, fun _ => show x % 16 < 16 by omega⟩
      · walk_at "go"
        exact fun z => absurd z h
    rintro d ⟨z, rfl, hz1, hz2⟩
    walk_at "gb"
    walk_at "mc"
    walk_at "go"
    refine ⟨_, rfl, by simp, by simp, fun d hd => ?_⟩
    obtain ⟨c, rfl, hc⟩ : ∃ c : Str, d = .str c ∧ c ∈ conds := by
      simp only [List.mem_cons, List.mem_nil_iff, or_false, conds] at hd ⊢
      rcases hd with h | h | h | h | h | h <;> exact ⟨_, h, by simp⟩
    clear hd
    walk_at "gr"
    refine XSs.fr ?_
    walk_at "go"
    refine ⟨_, rfl, by simp, by simp, fun d hd => ?_⟩
    have good : ∀ rs : List Row, d = .list (rs.map Row.enc) → rs.length ≤ 2 → (∀ r ∈ rs, r.Ok) → k0 d := fun rs e h1 h2 => by
      rw [e]
      exact hk rs h1 h2
    simp only [List.mem_cons, List.mem_nil_iff, or_false, List.mem_append] at hd
    show k0 d
    rcases hd with (((h | h | h) | h | h | h | h) | h) | h
    · refine good [.plain o [I r1, I r2]] h (by simp) (all_cons (.op _ _ _ ?_ (by omega) (by omega)) all_nil)
      simp only [List.mem_cons, List.mem_nil_iff, or_false] at ho ⊢
      rcases ho with h | h | h | h | h | h <;> simp [h]
    · refine good [.plain (o ++ ("n" : Str)) [I r1, I z]] h (by simp) (all_cons ?_ all_nil)
      simp only [List.mem_cons, List.mem_nil_iff, or_false] at ho
      rcases ho with rfl | rfl | rfl | rfl | rfl | rfl
      · exact .opn _ _ _ (by decide) (by omega) hz1
      · exact .opn _ _ _ (by decide) (by omega) hz1
      · exact .opn _ _ _ (by decide) (by omega) hz1
      · exact .opn _ _ _ (by decide) (by omega) hz1
      · exact .sh _ _ _ (by decide) (by omega) (hz2 (by decide))
      · exact .sh _ _ _ (by decide) (by omega) (hz2 (by decide))
    · exact good [.plain "sub" [I r1, I r2]] h (by simp) (all_cons (.op _ _ _ (by decide) (by omega) (by omega)) all_nil)
    · exact good [.plain "keep" [I r1, I 1], .plain "set" [I r1, I x]] h (by simp) (all_cons (.keep _ _ (by omega) (by omega)) (all_cons (.set _ _ (by omega) (by omega)) all_nil))
    · exact good [.plain "take" [I r1, I 1]] h (by simp) (all_cons (.take _ _ (by omega) (by omega)) all_nil)
    · exact good [.plain "move" [I r1, I r2]] h (by simp) (all_cons (.move _ _ (by omega) (by omega)) all_nil)
    · exact good [.plain "ask" [I r1, .str "ones", I r2]] h (by simp) (all_cons (.ask _ _ (by omega) (by omega)) all_nil)
    · exact good [.whenn c r1 x (at_ + 2), .plain "set" [I r2, I x]] h (by simp) (all_cons ⟨hc, by omega, hx, by omega⟩ (all_cons (.set _ _ (by omega) (by omega)) all_nil))
    · exact good [.when c r1 r2 (at_ + 2), .plain "set" [I r1, I 1]] h (by simp) (all_cons ⟨hc, by omega, by omega, by omega⟩ (all_cons (.set _ _ (by omega) (by omega)) all_nil))
end
def pieceLen : Nat → Nat
  | 0 => 4
  | c + 1 => 2 + 2 * pieceLen c
def spPiece (c : Nat) : Sc := fun ds k => ∃ (g : PyData) (a : Nat) (cs : List Nat), ds = [wel, g, I a, .list (cs.map I)] ∧ GrantOk g ∧ cs.length = c ∧ (∀ x ∈ cs, x < 4) ∧ a + pieceLen c ≤ 100 ∧ RowsK (pieceLen c) k
theorem RowsK.mono {m n : Nat} {k : PyData → Prop} (h : RowsK n k) (l : m ≤ n) : RowsK m k := fun rs h1 h2 => h rs (Nat.le_trans h1 l) h2
theorem pieceLen_le (c : Nat) : 4 ≤ pieceLen c := by
  induction c with
  | zero => exact Nat.le_refl _
  | succ c ih =>
    show 4 ≤ 2 + 2 * pieceLen c
    omega
section
variable {P : Program} {w : World} {K : PySem.W.Frag} {mg : Str → Option Value} {base : Heap}
theorem c_piece (M : Md w K mg) (cd : CLDraw P w K mg base 1 spDraw) (c1 : CLGuarded P w K mg base 3 spGuarded) (c2 : CLMasked P w K mg base 3 spMasked) (c3 : CLBelow P w K mg base 2 spMasked) (c4 : CLOnCells P w K mg base 3 spOn) (c5 : CLOnPairs P w K mg base 3 spOn) (c6 : CLSomeRows P w K mg base 4 spSome) {n c : Nat} (hn : 4 ≤ n)
    (rec : ∀ c', c = c' + 1 → CLPiece P w K mg base n (spPiece c')) : CLPiece P w K mg base (n + 1) (spPiece c) := by
  have d0 := cd.mono (show 1 ≤ n by omega)
  have d1 := c1.mono (show 3 ≤ n by omega)
  have d2 := c2.mono (show 3 ≤ n by omega)
  have d3 := c3.mono (show 2 ≤ n by omega)
  have d4 := c4.mono (show 3 ≤ n by omega)
  have d5 := c5.mono (show 3 ≤ n by omega)
  have d6 := c6.mono (show 4 ≤ n by omega)
  clear cd c1 c2 c3 c4 c5 c6
  have ln : n ≤ n := Nat.le_refl n
  refine goLPiece M ?_ ?_
  · rintro ds k0 ⟨g, a, cs, rfl, _⟩
    rfl
  · intro f cdv A outer s H E fm nd ds k0 h
    obtain ⟨g, a, cs, rfl, ⟨ga, gb, wr, ks, rfl, hab, hb, hw, hks, hk1⟩, hcl, hc4, hal, hk⟩ := h
    have pl := pieceLen_le c
    have hg : GrantOk (.tuple [I ga, I gb, I wr, .tuple ks]) := ⟨ga, gb, wr, ks, rfl, hab, hb, hw, hks, hk1⟩
    walk_at "go"
    refine ⟨_, rfl, by decide, by decide, fun r1 h1 => ?_⟩
    walk_at "go"
    refine ifd (fun h => ?_) (fun h => ?_)
    · walk_at "go"
      exact ⟨_, _, rfl, by omega, hg, hk.mono pl⟩
    walk_at "go"
    refine ifd (fun h => ?_) (fun h => ?_)
    · walk_at "go"
      refine ifd (fun h => ?_) (fun h => ?_)
      · walk_at "go"
        exact ⟨_, rfl, by omega, hk.mono pl⟩
      · walk_at "go"
        exact ⟨_, rfl, by omega, hk.mono pl⟩
    walk_at "gt"
    refine XT.imp (k := fun z => z = true → 0 < ks.length) ?_ ?_
    · walk_at "go"
      refine ifd (fun h => ?_) (fun h => ?_)
      · walk_at "go"
        intro z
        have z := of_decide_eq_true z
        omega
      · exact fun z => nomatch z
    intro z hz
    refine ifb (fun h => ?_) (fun h => ?_)
    · have hz := hz h
      walk_at "go"
      refine ⟨_, rfl, by omega, by omega, fun t ht => ?_⟩
      have ht : t < ks.length := by omega
      have e := List.getElem?_eq_getElem ht
      obtain ⟨sk, m, q, ek, hs1, hm1, hq1, hq2⟩ := hk1 _ (List.getElem_mem ht)
      rw [ek] at e
      have hko : KindOk (.tuple [.str sk, I m, I q]) := ⟨sk, m, q, rfl, hs1, hm1, hq1, hq2⟩
      walk_at "go"
      refine ifd (fun h => ?_) (fun h => ?_)
      · walk_at "go"
        exact ⟨_, _, _, rfl, by omega, by omega, hko, hk.mono (by omega)⟩
      · walk_at "go"
        exact ⟨_, _, _, rfl, by omega, by omega, hko, hk.mono (by omega)⟩
    clear hz h z
    walk_at "gt"
    refine XT.imp (k := fun z => z = true → cs ≠ []) ?_ ?_
    · walk_at "go"
      refine ifd (fun h => ?_) (fun h => ?_)
      · walk_at "go"
        refine eqK_nil (n := 0) (sh_I cs) (by omega) ?_
        walk_at "go"
        intro z e
        rw [e] at z
        cases z
      · exact fun z => nomatch z
    intro z hz
    refine ifb (fun h => ?_) (fun h => ?_)
    · obtain ⟨x, cs, rfl⟩ : ∃ x xs, cs = x :: xs := by
        cases cs with
        | nil => exact absurd rfl (hz h)
        | cons x xs => exact ⟨x, xs, rfl⟩
      have hx : x < 4 := hc4 x List.mem_cons_self
      subst hcl
      have rc := rec cs.length rfl
      have pl2 : pieceLen (x :: cs).length = 2 + 2 * pieceLen cs.length := rfl
      rw [pl2] at hal hk
      walk_at "go"
      have cf : cutD (List.map I (x :: cs)) (some (1 : Int)) none = List.map I cs := cut_from (ds := List.map I (x :: cs)) (m := 1) (by simp)
      refine XS.for fm [9] (fun i s' => ∃ (rs : List Row) (o1 : Option PyData), s' = ([some wel, some (.tuple [I ga, I gb, I wr, .tuple ks]), some (I a), some (.list (List.map I (x :: cs))), some (I r1), some (.tuple ks), none, none, some (.list (rs.map Row.enc)), o1], none) ∧ rs.length ≤ 1 + i * pieceLen cs.length ∧ ∀ r ∈ rs, r.Ok) (by walk_at "rr2") ?_
      walk_at "go"
      refine ⟨_, rfl, by decide, by decide, fun r2 hr2 => ?_⟩
      walk_at "go"
      refine ⟨⟨[.begin x], none, rfl, by simp, all_cons hx all_nil⟩, fun i d δ' m' hd hP => ?_, fun δ' m' hP => ?_⟩
      · obtain ⟨hi, rfl⟩ := rngD_get hd
        obtain ⟨rs, o1, e, hl, hr⟩ := hP
        cases e
        have hi2 : i ≤ 1 := by omega
        have hl2 : rs.length ≤ 1 + pieceLen cs.length := Nat.le_trans hl (by
          have := Nat.mul_le_mul_right (pieceLen cs.length) hi2
          omega)
        refine ⟨fun q e => (by cases e), ?_⟩
        walk_at "go"
        rw [cf]
        walk_at "go"
        rw [show (a : Int) + ((List.map Row.enc rs).length : Int) = ((a + rs.length : Nat) : Int) by simp]
        walk_at "go"
        refine ⟨_, a + rs.length, cs, rfl, hg, rfl, fun y hy => hc4 y (List.mem_cons_of_mem _ hy), by omega, fun rs2 h2 h3 => ?_⟩
        walk_at "go"
        refine ⟨rs ++ rs2, _, by rw [List.map_append]; rfl, ?_, fun r hr2 => ?_⟩
        · rw [List.length_append, Nat.add_mul]
          omega
        · rcases List.mem_append.mp hr2 with h | h
          · exact hr r h
          · exact h3 r h
      · obtain ⟨rs, o1, e, hl, hr⟩ := hP
        cases e
        rw [rngD_len] at hl
        have hl2 : rs.length ≤ 1 + 2 * pieceLen cs.length := Nat.le_trans hl (by
          have := Nat.mul_le_mul_right (pieceLen cs.length) (show (1 + (r2 : Int)).toNat ≤ 2 by omega)
          omega)
        walk_at "go"
        refine ⟨_, rfl, by decide, by decide, fun r3 hr3 => ?_⟩
        walk_at "go"
        have fin := hk (rs ++ [.again x (1 + r3) (a + 1)]) (by simp; omega) (fun r hr2 => by
          rcases List.mem_append.mp hr2 with h | h
          · exact hr r h
          · rw [List.mem_singleton.mp h]
            exact ⟨hx, by omega, by omega, by omega⟩)
        rw [List.map_append] at fin
        exact fin
    clear hz h z
    walk_at "go"
    exact ⟨_, rfl, by omega, hk.mono (by omega)⟩
theorem c_piece3 (M : Md w K mg) (cd : CLDraw P w K mg base 1 spDraw) (c1 : CLGuarded P w K mg base 3 spGuarded) (c2 : CLMasked P w K mg base 3 spMasked) (c3 : CLBelow P w K mg base 2 spMasked) (c4 : CLOnCells P w K mg base 3 spOn) (c5 : CLOnPairs P w K mg base 3 spOn) (c6 : CLSomeRows P w K mg base 4 spSome) : CLPiece P w K mg base 8 (spPiece 3) := by
  have p0 : CLPiece P w K mg base 5 (spPiece 0) := c_piece M cd c1 c2 c3 c4 c5 c6 (by omega) fun _ z => nomatch z
  have p1 : CLPiece P w K mg base 6 (spPiece 1) := c_piece M cd c1 c2 c3 c4 c5 c6 (by omega) fun c' z => by
    cases z
    exact p0
  have p2 : CLPiece P w K mg base 7 (spPiece 2) := c_piece M cd c1 c2 c3 c4 c5 c6 (by omega) fun c' z => by
    cases z
    exact p1
  exact c_piece M cd c1 c2 c3 c4 c5 c6 (by omega) fun c' z => by
    cases z
    exact p2
def spSieve : Sc := fun ds k => ∃ g, ds = [wel, g] ∧ GrantOk g ∧ ∀ rs, SieveOk rs → k (encS rs)
def spPutIn : Sc := fun ds k => ∃ rs, ds = [wel, encS rs] ∧ SieveOk rs ∧ ∀ rs, SieveOk rs → k (encS rs)
theorem c_sieve (M : Md w K mg) (cd : CLDraw P w K mg base 1 spDraw) (cp : CLPiece P w K mg base 8 (spPiece 3)) : CLSieve P w K mg base 9 spSieve := by
  refine goLSieve M ?_ ?_
  · rintro ds k0 ⟨g, rfl, _⟩
    rfl
  · intro f cdv A outer s H E fm nd ds k0 h
    obtain ⟨g, rfl, hg, hk⟩ := h
    walk_at "go"
    refine XS.for fm [3] (fun i s' => ∃ (rs : List Row) (o1 : Option PyData), s' = ([some wel, some g, some (.list (rs.map Row.enc)), o1], none) ∧ rs.length ≤ 85 ∧ ∀ r ∈ rs, r.Ok) (by walk_at "rr2") ?_
    walk_at "go"
    refine ⟨_, rfl, by decide, by decide, fun r1 hr1 => ?_⟩
    walk_at "go"
    refine ⟨⟨[], none, rfl, by simp, all_nil⟩, fun i d δ' m' hd hP => ?_, fun δ' m' hP => ?_⟩
    · obtain ⟨hi, rfl⟩ := rngD_get hd
      obtain ⟨rs, o1, e, hl, hr⟩ := hP
      cases e
      refine ⟨fun q e => (by cases e), ?_⟩
      walk_at "go"
      refine ifd (fun h => ?_) (fun h => ?_)
      · have h : rs.length < 40 := by
          rw [List.length_map] at h
          omega
        walk_at "go"
        rw [List.length_map]
        refine ⟨_, rs.length, [0, 1, 2], rfl, hg, rfl, by decide, by show rs.length + 46 ≤ 100; omega, fun rs2 h2 h3 => ?_⟩
        have h2 : rs2.length ≤ 46 := h2
        walk_at "go"
        refine ⟨rs ++ rs2, _, by rw [List.map_append]; rfl, by rw [List.length_append]; omega, fun r hr2 => ?_⟩
        rcases List.mem_append.mp hr2 with h | h
        · exact hr r h
        · exact h3 r h
      · walk_at "go"
        exact ⟨rs, _, by rw [List.append_nil]; rfl, hl, hr⟩
    · obtain ⟨rs, o1, e, hl, hr⟩ := hP
      cases e
      walk_at "go"
      refine ⟨_, rfl, by decide, by decide, fun r3 hr3 => ?_⟩
      walk_at "go"
      have fin := hk (rs ++ [.plain "answer" [I r3]]) ⟨by simp, by simp; omega, fun r hr2 => by
        rcases List.mem_append.mp hr2 with h | h
        · exact hr r h
        · rw [List.mem_singleton.mp h]
          exact .answer _ (by omega)⟩
      unfold encS at fin
      rw [List.map_append] at fin
      exact fin
theorem c_put_in (M : Md w K mg) (cd : CLDraw P w K mg base 1 spDraw) (cp : CLPick P w K mg base 2 spPick) (cq : CLPut P w K mg base 1 spPut) : CLPutIn P w K mg base 3 spPutIn := by
  refine goLPutIn M ?_ ?_
  · rintro ds k0 ⟨rs, rfl, _⟩
    rfl
  · intro f cdv A outer s H E fm nd ds k0 h
    obtain ⟨rs, rfl, hs, hk⟩ := h
    have hp := hs.pos
    have hl := hs.len
    have e0 : encS rs = .tuple (rs.map Row.enc) := rfl
    rw [e0]
    walk_at "go"
    rw [List.length_map]
    refine ⟨_, rfl, by omega, by omega, fun r1 h1 => ?_⟩
    walk_at "go"
    rw [List.length_map]
    refine ⟨_, rfl, by omega, by omega, fun r2 h2 => ?_⟩
    walk_at "go"
    rw [List.length_map]
    refine ⟨_, rfl, by omega, by omega, fun r3 h3 => ?_⟩
    refine ⟨_, _, rfl, rfl, ?_⟩
    obtain ⟨ne, en, hne⟩ : ∃ x : Nat, (if (r3 : Int) < (r1 : Int) then (r3 : Int) else (r1 : Int)) = (x : Int) ∧ x ≤ r1 := by
      split
      · exact ⟨r3, rfl, by omega⟩
      · exact ⟨r1, rfl, by omega⟩
    rw [en]
    walk_at "go"
    refine ⟨_, rfl, by decide, by decide, fun r4 h4 => ?_⟩
    walk_at "go"
    refine ⟨_, rfl, by decide, by decide, fun r5 h5 => ?_⟩
    walk_at "go"
    refine ⟨_, rfl, by decide, by decide, fun r6 h6 => ?_⟩
    walk_at "go"
    refine ⟨_, rfl, by decide, by decide, fun r7 h7 => ?_⟩
    walk_at "go"
    refine ⟨_, rfl, by decide, by decide, fun r8 h8 => ?_⟩
    walk_at "go"
    refine ⟨_, rfl, by simp, by simp, fun d hd => ?_⟩
    obtain ⟨r, rfl, hr⟩ : ∃ r : Row, d = r.enc ∧ r.Ok := by
      have hd' : d ∈ [Row.again r4 (1 + r5) ne, .begin r6, .jump r2, .again r7 (1 + r8) ne, .again 0 2 r2, .whenn "below" 0 3 r2, .when "same" 0 1 r2].map Row.enc := hd
      obtain ⟨r, hr, rfl⟩ := List.mem_map.mp hd'
      refine ⟨r, rfl, ?_⟩
      have all : ∀ r ∈ [Row.again r4 (1 + r5) ne, .begin r6, .jump r2, .again r7 (1 + r8) ne, .again 0 2 r2, .whenn "below" 0 3 r2, .when "same" 0 1 r2], r.Ok :=
        all_cons ⟨by omega, by omega, by omega, by omega⟩ (all_cons (show r6 < 4 by omega) (all_cons (show r2 < 120 by omega) (all_cons ⟨by omega, by omega, by omega, by omega⟩ (all_cons ⟨by omega, by omega, by omega, by omega⟩ (all_cons ⟨by decide, by omega, by omega, by omega⟩ (all_cons ⟨by decide, by omega, by omega, by omega⟩ all_nil))))))
      exact all r hr
    have dt : Dt r.enc := by cases r <;> exact True.intro
    walk_at "go"
    refine ⟨_, r1, _, rfl, by rw [List.length_map]; omega, by rw [List.length_map]; omega, dt, ?_⟩
    have fin := hk (rs.set r1 r) ⟨by simpa using hp, by simpa using hl, fun q hq => by
      rcases List.mem_or_eq_of_mem_set hq with h | h
      · exact hs.rows q h
      · rw [h]
        exact hr⟩
    unfold encS at fin
    rw [List.map_set] at fin
    exact fin
end
theorem and_w (a b : Nat) (ha : a < 65536) : ∃ r : Nat, Builtin.bitAnd (a : Int) (b : Int) = (r : Int) ∧ r < 65536 := by
  refine ⟨a &&& b, ?_, Nat.lt_of_le_of_lt Nat.and_le_left ha⟩
  rw [bitAnd_pp (by omega) (by omega)]
  simp
theorem or_nat (a b : Nat) : Builtin.bitOr (a : Int) (b : Int) = ((a ||| b : Nat) : Int) := by
  have h1 : ¬ (0 ≤ Builtin.bitNot (a : Int)) := by
    unfold Builtin.bitNot
    omega
  have h2 : ¬ (0 ≤ Builtin.bitNot (b : Int)) := by
    unfold Builtin.bitNot
    omega
  have e : ∀ x : Int, Builtin.bitNot (Builtin.bitNot x) = x := fun x => by
    unfold Builtin.bitNot
    omega
  unfold Builtin.bitOr Builtin.bitAnd
  simp only [h1, h2, decide_false, e]
  simp
theorem or_w (a b : Nat) (ha : a < 65536) (hb : b < 65536) : ∃ r : Nat, Builtin.bitOr (a : Int) (b : Int) = (r : Int) ∧ r < 65536 :=
  ⟨a ||| b, or_nat a b, Nat.or_lt_two_pow (n := 16) ha hb⟩
theorem xor_w (a b : Nat) (ha : a < 65536) (hb : b < 65536) : ∃ r : Nat, Builtin.bitXor (a : Int) (b : Int) = (r : Int) ∧ r < 65536 := by
  have h1 : a ||| b < 65536 := Nat.or_lt_two_pow (n := 16) ha hb
  have h2 : a &&& b ≤ a ||| b := Nat.le_trans Nat.and_le_left Nat.left_le_or
  refine ⟨(a ||| b) - (a &&& b), ?_, by omega⟩
  unfold Builtin.bitXor
  rw [or_nat, bitAnd_pp (by omega) (by omega)]
  simp only [Int.toNat_natCast]
  omega
def ops7 : List Str := ["add", "sub", "and", "or", "xor", "left", "right"]
def spPlain : Sc := fun ds k => ∃ (o : Str) (a b : Nat), ds = [.str o, I a, I b] ∧ o ∈ ops7 ∧ a < 65536 ∧ b < 65536 ∧ ∀ r : Nat, r < 65536 → k (I r)
def tabOf (o : Str) (xs : List PyData) : PyData := if o ∈ (["cell", "fill", "find", "value", "change"] : List Str) then xs.getD 1 .none else if o = "count" then xs.getD 0 .none else .none
def spTableOf : Sc := fun ds k => ∃ (o : Str) (xs : List PyData), ds = [.tuple (.str o :: xs)] ∧ (o ∈ (["cell", "fill", "find", "value", "change"] : List Str) → 2 ≤ xs.length) ∧ (o = "count" → 1 ≤ xs.length) ∧ k (tabOf o xs)
def spServed : Sc := fun ds k => ∃ (o : Str) (xs : List PyData) (t : Nat) (ks : List (Str × Nat)), ds = [.tuple (.str o :: xs), .list (ks.map fun q => .tuple [.str q.1, I q.2])] ∧ o ∈ (["cell", "fill", "find", "value", "change", "count"] : List Str) ∧ tabOf o xs = I t ∧ ks.length ≤ 1000 ∧ (o ∈ (["cell", "fill", "find", "value", "change"] : List Str) → 2 ≤ xs.length) ∧ (o = "count" → 1 ≤ xs.length) ∧ ∀ z : Bool, (z = true → Served o t ks) → k (.bool z)
section
variable {P : Program} {w : World} {K : PySem.W.Frag} {mg : Str → Option Value} {base : Heap}
theorem c_plain (M : Md w K mg) : CLPlain P w K mg base 1 spPlain := by
  refine goLPlain M ?_ ?_
  · rintro ds k0 ⟨o, a, b, rfl, _⟩
    rfl
  · intro f cdv A outer s H E fm nd ds k0 h
    obtain ⟨o, a, b, rfl, ho, ha, hb, hk⟩ := h
    obtain ⟨r1, e1, h1⟩ := and_w a b ha
    obtain ⟨r2, e2, h2⟩ := or_w a b ha hb
    obtain ⟨r3, e3, h3⟩ := xor_w a b ha hb
    have md : ∀ i : Int, k0 (.int (i % 65536)) := fun i => by
      have e : (((i % 65536).toNat : Nat) : Int) = i % 65536 := Int.toNat_of_nonneg (by omega)
      have z := hk (i % 65536).toNat (by omega)
      rw [show I (i % 65536).toNat = .int (i % 65536) by rw [← e]; rfl] at z
      exact z
    simp only [ops7, List.mem_cons, List.mem_nil_iff, or_false] at ho
    rcases ho with rfl | rfl | rfl | rfl | rfl | rfl | rfl
    · walk_at "go"
      exact md _
    · walk_at "go"
      exact md _
    · walk_at "go"
      rw [e1]
      exact hk r1 h1
    · walk_at "go"
      rw [e2]
      exact hk r2 h2
    · walk_at "go"
      rw [e3]
      exact hk r3 h3
    · walk_at "go"
      exact md _
    · walk_at "go"
      have e : (a : Int) / 2 ^ ((b : Int) % 16).toNat = ((a / 2 ^ ((b : Int) % 16).toNat : Nat) : Int) := by
        push_cast
        rfl
      rw [e]
      exact hk _ (Nat.lt_of_le_of_lt (Nat.div_le_self _ _) ha)
theorem c_table_of (M : Md w K mg) : CLTableOf P w K mg base 1 spTableOf := by
  refine goLTableOf M ?_ ?_
  · rintro ds k0 ⟨o, xs, rfl, _⟩
    rfl
  · intro f cdv A outer s H E fm nd ds k0 h
    obtain ⟨o, xs, rfl, h1, h2, hk⟩ := h
    unfold tabOf at hk
    walk_at "go"
    refine ifd (fun h => ?_) (fun h => ?_)
    · have l := h1 h
      rw [if_pos h] at hk
      walk_at "go"
      refine ix_of (i := 2) (.inl rfl) (d := xs.getD 1 .none) ?_ hk
      simp [List.getElem?_eq_getElem (show 1 < xs.length by omega)]
    · rw [if_neg h] at hk
      walk_at "go"
      refine ifd (fun h => ?_) (fun h => ?_)
      · have l := h2 h
        rw [if_pos h] at hk
        walk_at "go"
        refine ix_of (i := 1) (.inl rfl) (d := xs.getD 0 .none) ?_ hk
        simp [List.getElem?_eq_getElem (show 0 < xs.length by omega)]
      · rw [if_neg h] at hk
        walk_at "go"
        exact hk
theorem c_is_served (M : Md w K mg) (ct : CLTableOf P w K mg base 1 spTableOf) : CLIsServed P w K mg base 2 spServed := by
  refine goLIsServed M ?_ ?_
  · rintro ds k0 ⟨o, xs, t, ks, rfl, _⟩
    rfl
  · intro f cdv A outer s H E fm nd ds k0 h
    obtain ⟨o, xs, t, ks, rfl, ho, ht, hl, h1, h2, hk⟩ := h
    walk_at "go"
    refine ⟨o, xs, rfl, h1, h2, ?_⟩
    rw [ht]
    walk_at "gt"
    refine XT.imp (k := fun z => z = false → ∃ q, ks[t]? = some q ∧ q.1 = (if o ∈ (["cell", "fill", "count"] : List Str) then ("array" : Str) else "pairs")) ?_ ?_
    · walk_at "go"
      refine ifd (fun h => ?_) (fun h => ?_)
      · exact fun z => nomatch z
      rw [List.length_map] at h
      have e := List.getElem?_eq_getElem (show t < ks.length by omega)
      have e2 : (ks.map fun q => PyData.tuple [.str q.1, I q.2])[t]? = some (.tuple [.str (ks[t]'(by omega)).1, I (ks[t]'(by omega)).2]) := by rw [List.getElem?_map, e]; rfl
      walk_at "go"
      refine ifd (fun h3 => ?_) (fun h3 => ?_)
      · walk_at "go"
        intro z
        refine ⟨_, e, ?_⟩
        rw [if_pos h3]
        simpa using z
      · walk_at "go"
        intro z
        refine ⟨_, e, ?_⟩
        rw [if_neg h3]
        simpa using z
    · intro z hz
      refine ifb (fun h => ?_) (fun h => ?_)
      · walk_at "go"
        exact hk false fun z => nomatch z
      obtain ⟨q, e, hq⟩ := hz h
      have e2 : (ks.map fun q => PyData.tuple [.str q.1, I q.2])[t]? = some (.tuple [.str q.1, I q.2]) := by rw [List.getElem?_map, e]; rfl
      walk_at "go"
      refine ifb (fun h3 => ?_) (fun h3 => ?_)
      · exact hk true fun _ => ⟨q, e, by rw [hq]; split <;> rfl, fun z => by simp [z] at h3⟩
      · walk_at "go"
        refine hk _ fun z => ⟨q, e, by rw [hq]; split <;> rfl, fun _ => ?_⟩
        have z := of_decide_eq_true z
        omega
end
/-- the row finds what it looks for -/
inductive Rdy (r : Run) : Row → Prop
  | cell {a t b m : Nat} {us : List Nat} {x : Nat} : r.tb[t]? = some (.arr m us) → r.ws[b]? = some x → x < us.length → Rdy r (.plain "cell" [I a, I t, I b])
  | fill {a t b m : Nat} {us : List Nat} {x : Nat} : r.tb[t]? = some (.arr m us) → r.ws[b]? = some x → x < us.length → Rdy r (.plain "fill" [I a, I t, I b])
  | count {t b m : Nat} {us : List Nat} {x : Nat} : r.tb[t]? = some (.arr m us) → r.ws[b]? = some x → x < us.length → Rdy r (.plain "count" [I t, I b])
  | find {a t b m : Nat} {ps : List (Nat × Nat)} : r.tb[t]? = some (.prs m ps) → Rdy r (.plain "find" [I a, I t, I b])
  | value {a t b m : Nat} {ps : List (Nat × Nat)} {x : Nat} : r.tb[t]? = some (.prs m ps) → r.ws[b]? = some x → 1 ≤ x → x ≤ ps.length → Rdy r (.plain "value" [I a, I t, I b])
  | change {a t b m : Nat} {ps : List (Nat × Nat)} {x : Nat} : r.tb[t]? = some (.prs m ps) → r.ws[b]? = some x → 1 ≤ x → x ≤ ps.length → Rdy r (.plain "change" [I a, I t, I b])
  | byte {a b s x : Nat} : r.ws[b]? = some x → x + s + 1 ≤ r.pk.length → Rdy r (.plain "byte" [I a, I b, I s])
  | pair {a b s x : Nat} : r.ws[b]? = some x → x + s + 2 ≤ r.pk.length → Rdy r (.plain "pair" [I a, I b, I s])
  | write {a b s x : Nat} : r.ws[b]? = some x → x + s + 1 ≤ r.pk.length → Rdy r (.plain "write" [I a, I b, I s])
  | other {o : Str} {xs : List PyData} : o ∉ (["cell", "fill", "count", "find", "value", "change", "byte", "pair", "write"] : List Str) → Rdy r (.plain o xs)
  | jumps {w : Row} : (∀ o xs, w ≠ .plain o xs) → Rdy r w
def spHolds : Sc := fun ds k => ∃ (c : Str) (a b : Nat), ds = [.str c, I a, I b] ∧ c ∈ conds ∧ ∀ z : Bool, k (.bool z)
def spFault : Sc := fun ds k => ∃ (w : Row) (r : Run), ds = [w.enc, r.enc] ∧ w.Ok ∧ r.Ok ∧ (∀ s : Str, PyData.strOk s = true → k (.str s)) ∧ (Rdy r w → k .none)
def kindD (q : Str × Nat) : PyData := .tuple [.str q.1, I q.2]
theorem Tab.enc_eq (t : Tab) : t.enc = .tuple [.str t.kind.1, I t.kind.2, t.rows] := by cases t <;> rfl
section
variable {P : Program} {w : World} {K : PySem.W.Frag} {mg : Str → Option Value} {base : Heap}
theorem c_holds (M : Md w K mg) : CLHolds P w K mg base 1 spHolds := by
  refine goLHolds M ?_ ?_
  · rintro ds k0 ⟨c, a, b, rfl, _⟩
    rfl
  · intro f cdv A outer s H E fm nd ds k0 h
    obtain ⟨c, a, b, rfl, hc, hk⟩ := h
    simp only [conds, List.mem_cons, List.mem_nil_iff, or_false] at hc
    rcases hc with rfl | rfl | rfl | rfl | rfl | rfl <;> (walk_at "go"; exact hk _)
theorem fault_tab (M : Md w K mg) (ct : CLTableOf P w K mg base 1 spTableOf) (cs : CLIsServed P w K mg base 2 spServed) {f : Addr} {cdv : Value} {A : Around} {outer : List Env} {s : Shared} {H : Hp} {E : XK} (fm : Fm P w K mg base nmLFault (defScope sLFault) 2 (xLFault P w K mg base f cdv A outer s H E)) (nd : nmLFault.Nodup)
    {o : Str} {xs : List PyData} {t b x : Nat} {r : Run} {k0 : PyData → Prop} (ho : o ∈ (["cell", "fill", "find", "value", "change", "count"] : List Str)) (ht : tabOf o xs = I t) (hxl : xs.length ≤ 10) (h1 : o ∈ (["cell", "fill", "find", "value", "change"] : List Str) → 2 ≤ xs.length) (h2 : o = "count" → 1 ≤ xs.length)
    (hb : (PyData.str o :: xs)[xs.length]? = some (I b)) (hx : r.ws[b]? = some x) (hr : r.Ok) (hs : ∀ s : Str, PyData.strOk s = true → k0 (.str s))
    (hk : ∀ T, r.tb[t]? = some T → (if o ∈ (["cell", "fill", "count"] : List Str) then ∃ m us, T = .arr m us ∧ x < us.length else ∃ m ps, T = .prs m ps ∧ (o ∈ (["value", "change"] : List Str) → 1 ≤ x ∧ x ≤ ps.length)) → k0 .none) :
    XSs K (xLFault P w K mg base f cdv A outer s H E) (defBody sLFault) ⟨fun _ => k0 .none, k0, fun _ => False, fun _ => False⟩ (entry nmLFault [(Row.plain o xs).enc, r.enc]) := by
  show XSs K (xLFault P w K mg base f cdv A outer s H E) (defBody sLFault) ⟨fun _ => k0 .none, k0, fun _ => False, fun _ => False⟩ (entry nmLFault [.tuple (.str o :: xs), .tuple [Ts r.ws, Ts r.ca, Ts r.cn, I r.p, Ts r.pk, .tuple (r.tb.map Tab.enc), I r.clk, I r.n, r.e, I r.wr]])
  walk_at "go"
  refine ⟨o, xs, rfl, h1, h2, ?_⟩
  rw [ht]
  walk_at "go"
  refine XE.lc (own := [("_law_each", 3)]) fm nd (blkOk_by (by decide +kernel)) ?_ (by walk_at "rr2")
  refine XI.tup fm ?_
  walk_at "go"
  refine LcK.mp r.tb Tab.enc (fun T => kindD T.kind) (by have := hr.tbl; omega) (fun T hT => ?_) ?_
  · rw [Tab.enc_eq T]
    walk_at "go"
    exact rfl
  walk_at "go"
  refine ⟨o, xs, t, r.tb.map Tab.kind, by rw [List.map_map]; rfl, ho, ht, by rw [List.length_map]; have := hr.tbl; omega, h1, h2, fun z hz => ?_⟩
  walk_at "go"
  refine ifb (fun h => ?_) (fun h => ?_)
  · walk_at "go"
    exact hs _ (by decide +kernel)
  obtain ⟨q, e, eq, _⟩ := hz (by simpa using h)
  rw [List.getElem?_map] at e
  cases eT : r.tb[t]? with
  | none =>
    rw [eT] at e
    cases e
  | some T =>
    rw [eT] at e
    cases e
    have kk := hk T eT
    have e2 : (r.tb.map Tab.enc)[t]? = some (.tuple [.str T.kind.1, I T.kind.2, T.rows]) := by rw [List.getElem?_map, eT, ← Tab.enc_eq T]; rfl
    have hx2 : (r.ws.map I)[b]? = some (I x) := by rw [List.getElem?_map, hx]; rfl
    have tl : T.many ≤ 1000 := by
      have := hr.tbo T (List.mem_of_getElem? eT)
      cases T with
      | arr m us => exact this.2
      | prs m us => exact this.2
    walk_at "go"
    rw [show ((PyData.str o :: xs).length : Int) - 1 = ((xs.length : Nat) : Int) by simp]
    refine ix_of (.inl rfl) hb ?_
    walk_at "go"
    have hm : ∃ us, T.rows = .tuple us ∧ us.length = T.many := by
      cases T with
      | arr m us => exact ⟨us.map I, rfl, List.length_map _⟩
      | prs m us => exact ⟨_, rfl, List.length_map _⟩
    obtain ⟨us, eu, lu⟩ := hm
    rw [eu]
    walk_at "go"
    rw [lu]
    have fin : ∀ h : (o ∈ (["cell", "fill", "count"] : List Str) → x < T.many), (o ∈ (["value", "change"] : List Str) → 1 ≤ x ∧ x ≤ T.many) → k0 .none := fun g1 g2 => by
      apply kk
      by_cases h3 : o ∈ (["cell", "fill", "count"] : List Str)
      · rw [if_pos h3]
        cases T with
        | arr m us => exact ⟨m, us, rfl, g1 h3⟩
        | prs m us =>
          have z : ("pairs" : Str) = (if o ∈ (["cell", "fill", "count"] : List Str) then ("array" : Str) else "pairs") := by
            have eq : ("pairs" : Str) = Str.ofString (if o ∈ (["cell", "fill", "count"] : List Str) then "array" else "pairs") := eq
            rw [eq]
            split <;> rfl
          rw [if_pos h3] at z
          exact absurd z (by decide)
      · rw [if_neg h3]
        cases T with
        | prs m us => exact ⟨m, us, rfl, g2⟩
        | arr m us =>
          have z : ("array" : Str) = (if o ∈ (["cell", "fill", "count"] : List Str) then ("array" : Str) else "pairs") := by
            have eq : ("array" : Str) = Str.ofString (if o ∈ (["cell", "fill", "count"] : List Str) then "array" else "pairs") := eq
            rw [eq]
            split <;> rfl
          rw [if_neg h3] at z
          exact absurd z (by decide)
    refine ifd (fun h3 => ?_) (fun h3 => ?_)
    · walk_at "go"
      refine ifd (fun h4 => ?_) (fun h4 => ?_)
      · walk_at "go"
        exact hs _ (by decide +kernel)
      walk_at "go"
      refine ifd (fun h5 => ?_) (fun h5 => ?_)
      · exfalso
        simp only [List.mem_cons, List.mem_nil_iff, or_false] at h3 h5
        rcases h3 with rfl | rfl | rfl <;> exact absurd h5 (by decide)
      · walk_at "go"
        exact fin (fun _ => by omega) fun z => absurd z h5
    · walk_at "go"
      refine ifd (fun h5 => ?_) (fun h5 => ?_)
      · walk_at "go"
        refine ifd (fun h6 => ?_) (fun h6 => ?_)
        · walk_at "go"
          refine ifb (fun h7 => ?_) (fun h7 => ?_)
          · walk_at "go"
            exact hs _ (by decide +kernel)
          · walk_at "go"
            have h7 : (x : Int) ≤ T.many := by simpa using h7
            exact fin (fun z => absurd z h3) fun _ => ⟨by omega, by omega⟩
        · walk_at "go"
          exact hs _ (by decide +kernel)
      · walk_at "go"
        exact fin (fun z => absurd z h3) fun z => absurd z h5
/-- a row that looks at no table -/
theorem fault_none (M : Md w K mg) (ct : CLTableOf P w K mg base 1 spTableOf) {f : Addr} {cdv : Value} {A : Around} {outer : List Env} {s : Shared} {H : Hp} {E : XK} (fm : Fm P w K mg base nmLFault (defScope sLFault) 2 (xLFault P w K mg base f cdv A outer s H E)) (nd : nmLFault.Nodup)
    {o : Str} {xs : List PyData} {r : Run} {k0 : PyData → Prop} (ht : tabOf o xs = .none) (h1 : o ∉ (["cell", "fill", "find", "value", "change"] : List Str)) (h2 : o ≠ "count") (ho : o ∉ (["byte", "pair", "write"] : List Str)) (hk : k0 .none) :
    XSs K (xLFault P w K mg base f cdv A outer s H E) (defBody sLFault) ⟨fun _ => k0 .none, k0, fun _ => False, fun _ => False⟩ (entry nmLFault [.tuple (.str o :: xs), r.enc]) := by
  walk_at "go"
  refine ⟨o, xs, rfl, fun z => absurd z h1, fun z => absurd z h2, ?_⟩
  rw [ht]
  walk_at "go"
  refine ifb (fun h => ?_) (fun h => ?_)
  · walk_at "go"
    exact hk
  · rw [Bool.not_eq_false'] at h
    exact absurd (of_decide_eq_true h) ho
theorem fault_byte (M : Md w K mg) (ct : CLTableOf P w K mg base 1 spTableOf) {f : Addr} {cdv : Value} {A : Around} {outer : List Env} {s : Shared} {H : Hp} {E : XK} (fm : Fm P w K mg base nmLFault (defScope sLFault) 2 (xLFault P w K mg base f cdv A outer s H E)) (nd : nmLFault.Nodup)
    {o : Str} {a b t x : Nat} {r : Run} {k0 : PyData → Prop} (ho : o = "byte" ∨ o = "pair" ∨ o = "write") (hx : r.ws[b]? = some x) (hr : r.Ok) (hs : ∀ s : Str, PyData.strOk s = true → k0 (.str s)) (hk : (x + t + (if o = "pair" then 2 else 1) ≤ r.pk.length) → k0 .none) :
    XSs K (xLFault P w K mg base f cdv A outer s H E) (defBody sLFault) ⟨fun _ => k0 .none, k0, fun _ => False, fun _ => False⟩ (entry nmLFault [.tuple [.str o, I a, I b, I t], r.enc]) := by
  show XSs K (xLFault P w K mg base f cdv A outer s H E) (defBody sLFault) ⟨fun _ => k0 .none, k0, fun _ => False, fun _ => False⟩ (entry nmLFault [.tuple [.str o, I a, I b, I t], .tuple [Ts r.ws, Ts r.ca, Ts r.cn, I r.p, Ts r.pk, .tuple (r.tb.map Tab.enc), I r.clk, I r.n, r.e, I r.wr]])
  have hx2 : (r.ws.map I)[b]? = some (I x) := by rw [List.getElem?_map, hx]; rfl
  walk_at "go"
  refine ⟨o, _, rfl, fun _ => by simp, fun _ => by simp, ?_⟩
  rw [show tabOf o [I a, I b, I t] = .none by rcases ho with rfl | rfl | rfl <;> rfl]
  rcases ho with rfl | rfl | rfl
  · walk_at "go"
    refine ifd (fun h => ?_) (fun h => ?_)
    · walk_at "go"
      exact hs _ (by decide +kernel)
    · walk_at "go"
      rw [List.length_map] at h
      exact hk (by rw [if_neg (by decide)]; omega)
  · walk_at "go"
    refine ifd (fun h => ?_) (fun h => ?_)
    · walk_at "go"
      exact hs _ (by decide +kernel)
    · walk_at "go"
      rw [List.length_map] at h
      exact hk (by rw [if_pos rfl]; omega)
  · walk_at "go"
    refine ifd (fun h => ?_) (fun h => ?_)
    · walk_at "go"
      exact hs _ (by decide +kernel)
    · walk_at "go"
      rw [List.length_map] at h
      refine ifb (fun h8 => ?_) (fun h8 => ?_)
      · walk_at "go"
        exact hs _ (by decide +kernel)
      · walk_at "go"
        exact hk (by rw [if_neg (by decide)]; omega)
theorem c_fault (M : Md w K mg) (ct : CLTableOf P w K mg base 1 spTableOf) (cs : CLIsServed P w K mg base 2 spServed) : CLFault P w K mg base 3 spFault := by
  refine goLFault M ?_ ?_
  · rintro ds k0 ⟨v, r, rfl, _⟩
    rfl
  · intro f cdv A outer s H E fm nd ds k0 h
    obtain ⟨v, r, rfl, hv, hr, hs, hk⟩ := h
    have jmp : ∀ o xs, v.enc = .tuple (.str o :: xs) → (∀ o xs, v ≠ .plain o xs) → tabOf o xs = .none → o ∉ (["cell", "fill", "find", "value", "change"] : List Str) → o ≠ "count" → o ∉ (["byte", "pair", "write"] : List Str) →
        XSs K (xLFault P w K mg base f cdv A outer s H E) (defBody sLFault) ⟨fun _ => k0 .none, k0, fun _ => False, fun _ => False⟩ (entry nmLFault [v.enc, r.enc]) := fun o xs e hn h1 h2 h3 h4 => by
      rw [e]
      exact fault_none M ct fm nd h1 h2 h3 h4 (hk (.jumps hn))
    cases v with
    | begin l => exact jmp _ _ rfl (fun _ _ z => nomatch z) rfl (by decide) (by decide) (by decide)
    | again l m d => exact jmp _ _ rfl (fun _ _ z => nomatch z) rfl (by decide) (by decide) (by decide)
    | jump d => exact jmp _ _ rfl (fun _ _ z => nomatch z) rfl (by decide) (by decide) (by decide)
    | when c a b d => exact jmp _ _ rfl (fun _ _ z => nomatch z) rfl (by decide) (by decide) (by decide)
    | whenn c a n d => exact jmp _ _ rfl (fun _ _ z => nomatch z) rfl (by decide) (by decide) (by decide)
    | plain o xs =>
      have non : ∀ o xs, (Rdy r (.plain o xs) → k0 .none) → tabOf o xs = .none → o ∉ (["cell", "fill", "count", "find", "value", "change", "byte", "pair", "write"] : List Str) →
          XSs K (xLFault P w K mg base f cdv A outer s H E) (defBody sLFault) ⟨fun _ => k0 .none, k0, fun _ => False, fun _ => False⟩ (entry nmLFault [(Row.plain o xs).enc, r.enc]) := fun o xs hk h1 h2 => by
        refine fault_none M ct fm nd h1 (fun z => h2 ?_) (fun z => h2 ?_) (fun z => h2 ?_) (hk (.other h2))
        · simp only [List.mem_cons, List.mem_nil_iff, or_false] at z ⊢
          rcases z with z | z | z | z | z <;> simp [z]
        · rw [z]
          decide
        · simp only [List.mem_cons, List.mem_nil_iff, or_false] at z ⊢
          rcases z with z | z | z <;> simp [z]
      have hv : PlainOk o xs := hv
      cases hv with
      | op o a b ho _ _ =>
        simp only [List.mem_cons, List.mem_nil_iff, or_false] at ho
        rcases ho with rfl | rfl | rfl | rfl | rfl | rfl | rfl <;> exact non _ _ hk rfl (by decide)
      | opn o a b ho _ _ =>
        simp only [List.mem_cons, List.mem_nil_iff, or_false] at ho
        rcases ho with rfl | rfl | rfl | rfl <;> exact non _ _ hk rfl (by decide)
      | sh o a b ho _ _ =>
        simp only [List.mem_cons, List.mem_nil_iff, or_false] at ho
        rcases ho with rfl | rfl <;> exact non _ _ hk rfl (by decide)
      | set => exact non _ _ hk rfl (by decide)
      | move => exact non _ _ hk rfl (by decide)
      | length => exact non _ _ hk rfl (by decide)
      | take => exact non _ _ hk rfl (by decide)
      | keep => exact non _ _ hk rfl (by decide)
      | ask => exact non _ _ hk rfl (by decide)
      | answer => exact non _ _ hk rfl (by decide)
      | byte a b t h1 h2 h3 =>
        obtain ⟨x, hx, _, _⟩ := ws_at hr h2
        exact fault_byte M ct fm nd (.inl rfl) hx hr hs fun z => hk (.byte hx (by rw [if_neg (by decide)] at z; exact z))
      | pair a b t h1 h2 h3 =>
        obtain ⟨x, hx, _, _⟩ := ws_at hr h2
        exact fault_byte M ct fm nd (.inr (.inl rfl)) hx hr hs fun z => hk (.pair hx (by rw [if_pos rfl] at z; exact z))
      | write a b t h1 h2 h3 =>
        obtain ⟨x, hx, _, _⟩ := ws_at hr h2
        exact fault_byte M ct fm nd (.inr (.inr rfl)) hx hr hs fun z => hk (.write hx (by rw [if_neg (by decide)] at z; exact z))
      | cell a t b h1 h2 h3 =>
        obtain ⟨x, hx, _, _⟩ := ws_at hr h3
        refine fault_tab M ct cs fm nd (by decide) rfl (by simp) (by simp) (by simp) (b := b) rfl hx hr hs fun T eT z => ?_
        rw [if_pos (by decide)] at z
        obtain ⟨m, us, rfl, z⟩ := z
        exact hk (.cell eT hx z)
      | fill a t b h1 h2 h3 =>
        obtain ⟨x, hx, _, _⟩ := ws_at hr h3
        refine fault_tab M ct cs fm nd (by decide) rfl (by simp) (by simp) (by simp) (b := b) rfl hx hr hs fun T eT z => ?_
        rw [if_pos (by decide)] at z
        obtain ⟨m, us, rfl, z⟩ := z
        exact hk (.fill eT hx z)
      | count t b h2 h3 =>
        obtain ⟨x, hx, _, _⟩ := ws_at hr h3
        refine fault_tab M ct cs fm nd (by decide) rfl (by simp) (by simp) (by simp) (b := b) rfl hx hr hs fun T eT z => ?_
        rw [if_pos (by decide)] at z
        obtain ⟨m, us, rfl, z⟩ := z
        exact hk (.count eT hx z)
      | find a t b h1 h2 h3 =>
        obtain ⟨x, hx, _, _⟩ := ws_at hr h3
        refine fault_tab M ct cs fm nd (by decide) rfl (by simp) (by simp) (by simp) (b := b) rfl hx hr hs fun T eT z => ?_
        rw [if_neg (by decide)] at z
        obtain ⟨m, us, rfl, _⟩ := z
        exact hk (.find eT)
      | value a t b h1 h2 h3 =>
        obtain ⟨x, hx, _, _⟩ := ws_at hr h3
        refine fault_tab M ct cs fm nd (by decide) rfl (by simp) (by simp) (by simp) (b := b) rfl hx hr hs fun T eT z => ?_
        rw [if_neg (by decide)] at z
        obtain ⟨m, us, rfl, z⟩ := z
        exact hk (.value eT hx (z (by decide)).1 (z (by decide)).2)
      | change a t b h1 h2 h3 =>
        obtain ⟨x, hx, _, _⟩ := ws_at hr h3
        refine fault_tab M ct cs fm nd (by decide) rfl (by simp) (by simp) (by simp) (b := b) rfl hx hr hs fun T eT z => ?_
        rw [if_neg (by decide)] at z
        obtain ⟨m, us, rfl, z⟩ := z
        exact hk (.change eT hx (z (by decide)).1 (z (by decide)).2)
end
def spFound : Sc := fun ds k => ∃ (w : Row) (r : Run), ds = [w.enc, r.enc] ∧ w.Ok ∧ r.Ok ∧ Rdy r w ∧ (∀ v : Nat, v < 65536 → (∃ o a xs, w = .plain o (I a :: xs) ∧ a < 8) → k (.list [I v])) ∧ k (.list [])
section
variable {P : Program} {w : World} {K : PySem.W.Frag} {mg : Str → Option Value} {base : Heap}
theorem c_found (M : Md w K mg) (co : CLOps P w K mg base 1 spOps) (cq : CLPlain P w K mg base 1 spPlain) : CLFound P w K mg base 2 spFound := by
  refine goLFound M ?_ ?_
  · rintro ds k0 ⟨v, r, rfl, _⟩
    rfl
  · intro f cdv A outer s H E fm nd ds k0 h
    obtain ⟨v, r, rfl, hv, hr, hrdy, hk, hk0⟩ := h
    have er : r.enc = .tuple [Ts r.ws, Ts r.ca, Ts r.cn, I r.p, Ts r.pk, .tuple (r.tb.map Tab.enc), I r.clk, I r.n, r.e, I r.wr] := rfl
    rw [er]
    cases v with
    | begin l => (simp only [Row.enc]; walk_at "go"; refine ⟨rfl, ?_⟩; walk_at "go"; refine ⟨rfl, ?_⟩; walk_at "go"; exact hk0)
    | again l m d => (simp only [Row.enc]; walk_at "go"; refine ⟨rfl, ?_⟩; walk_at "go"; refine ⟨rfl, ?_⟩; walk_at "go"; exact hk0)
    | jump d => (simp only [Row.enc]; walk_at "go"; refine ⟨rfl, ?_⟩; walk_at "go"; refine ⟨rfl, ?_⟩; walk_at "go"; exact hk0)
    | when c a b d => (simp only [Row.enc]; walk_at "go"; refine ⟨rfl, ?_⟩; walk_at "go"; refine ⟨rfl, ?_⟩; walk_at "go"; exact hk0)
    | whenn c a n d => (simp only [Row.enc]; walk_at "go"; refine ⟨rfl, ?_⟩; walk_at "go"; refine ⟨rfl, ?_⟩; walk_at "go"; exact hk0)
    | plain o xs =>
      have hv : PlainOk o xs := hv
      simp only [Row.enc]
      cases hv with
      | op o a b ho ha hb =>
        obtain ⟨x, hx, hxl, ex⟩ := ws_at hr ha
        obtain ⟨y, hy, hyl, ey⟩ := ws_at hr hb
        have fin : ∀ v : Nat, v < 65536 → k0 (.list [I v]) := fun v hv => hk v hv ⟨_, _, _, rfl, ha⟩
        simp only [List.mem_cons, List.mem_nil_iff, or_false] at ho
        rcases ho with rfl | rfl | rfl | rfl | rfl | rfl | rfl <;>
          (walk_at "go"; refine ⟨rfl, ?_⟩; walk_at "go"; refine ⟨_, x, y, rfl, by decide, hxl, hyl, fun v hv => ?_⟩; walk_at "go"; exact fin v hv)
      | opn o a b ho ha hb =>
        obtain ⟨x, hx, hxl, ex⟩ := ws_at hr ha
        have fin : ∀ v : Nat, v < 65536 → k0 (.list [I v]) := fun v hv => hk v hv ⟨_, _, _, rfl, ha⟩
        simp only [List.mem_cons, List.mem_nil_iff, or_false] at ho
        rcases ho with rfl | rfl | rfl | rfl <;>
          (walk_at "go"; refine ⟨rfl, ?_⟩; walk_at "go"; refine ⟨rfl, ?_⟩; walk_at "go"; refine ⟨_, x, b, rfl, by decide, hxl, hb, fun v hv => ?_⟩; walk_at "go"; exact fin v hv)
      | sh o a b ho ha hb =>
        obtain ⟨x, hx, hxl, ex⟩ := ws_at hr ha
        have fin : ∀ v : Nat, v < 65536 → k0 (.list [I v]) := fun v hv => hk v hv ⟨_, _, _, rfl, ha⟩
        simp only [List.mem_cons, List.mem_nil_iff, or_false] at ho
        rcases ho with rfl | rfl <;>
          (walk_at "go"; refine ⟨rfl, ?_⟩; walk_at "go"; refine ⟨rfl, ?_⟩; walk_at "go"; refine ⟨_, x, b, rfl, by decide, hxl, by omega, fun v hv => ?_⟩; walk_at "go"; exact fin v hv)
      | set a n ha hn =>
        walk_at "go"
        exact hk n hn ⟨_, _, _, rfl, ha⟩
      | move a b ha hb =>
        obtain ⟨y, hy, hyl, ey⟩ := ws_at hr hb
        walk_at "go"
        exact hk y hyl ⟨_, _, _, rfl, ha⟩
      | length a ha =>
        have hl : (r.pk.map I).length ≤ 1000000 := by rw [List.length_map]; have := hr.pkl; omega
        walk_at "go"
        rw [List.length_map]
        exact hk r.pk.length (by have := hr.pkl; omega) ⟨_, _, _, rfl, ha⟩
      | take a n ha hn =>
        obtain ⟨y, hy, hyl, ey⟩ := ca_at hr hn
        walk_at "go"
        exact hk y hyl ⟨_, _, _, rfl, ha⟩
      | keep => (walk_at "go"; refine ⟨rfl, ?_⟩; walk_at "go"; refine ⟨rfl, ?_⟩; walk_at "go"; exact hk0)
      | answer => (walk_at "go"; refine ⟨rfl, ?_⟩; walk_at "go"; refine ⟨rfl, ?_⟩; walk_at "go"; exact hk0)
      | write a b t h1 h2 h3 => (walk_at "go"; refine ⟨rfl, ?_⟩; walk_at "go"; refine ⟨rfl, ?_⟩; walk_at "go"; exact hk0)
      | fill a t b h1 h2 h3 => (walk_at "go"; refine ⟨rfl, ?_⟩; walk_at "go"; refine ⟨rfl, ?_⟩; walk_at "go"; exact hk0)
      | count t b h2 h3 => (walk_at "go"; refine ⟨rfl, ?_⟩; walk_at "go"; refine ⟨rfl, ?_⟩; walk_at "go"; exact hk0)
      | change a t b h1 h2 h3 => (walk_at "go"; refine ⟨rfl, ?_⟩; walk_at "go"; refine ⟨rfl, ?_⟩; walk_at "go"; exact hk0)
      | ask a b ha hb =>
        obtain ⟨y, hy, hyl, ey⟩ := ws_at hr hb
        walk_at "go"
        refine XE.lc (own := [("_law_bit", 8)]) fm nd (blkOk_by (by decide +kernel)) ?_ (by walk_at "rr2")
        walk_at "go"
        refine LcK.al (fun _ => True) (by rw [rngD_len]; decide) (fun d hd => ?_) fun acc hl _ => ?_
        · obtain ⟨i, hi⟩ := List.mem_iff_getElem?.mp hd
          obtain ⟨hi, rfl⟩ := rngD_get hi
          walk_at "go"
          refine ifb (fun h => ?_) (fun h => True.intro)
          walk_at "go"
          exact True.intro
        rw [rngD_len] at hl
        have hl : acc.length ≤ 16 := hl
        walk_at "go"
        exact hk acc.length (by omega) ⟨_, _, _, rfl, ha⟩
      | byte a b t ha hb ht =>
        obtain ⟨y, hy, hyl, ey⟩ := ws_at hr hb
        cases hrdy with
        | other z => exact absurd (by decide) z
        | jumps z => exact absurd rfl (z _ _)
        | @byte _ _ _ x hx hl =>
          rw [hy] at hx
          cases hx
          obtain ⟨z, hz, hzl, ez⟩ := pk_at hr (show y + t < r.pk.length by omega)
          walk_at "go"
          exact hk z (by omega) ⟨_, _, _, rfl, ha⟩
      | pair a b t ha hb ht =>
        obtain ⟨y, hy, hyl, ey⟩ := ws_at hr hb
        cases hrdy with
        | other z => exact absurd (by decide) z
        | jumps z => exact absurd rfl (z _ _)
        | @pair _ _ _ x hx hl =>
          rw [hy] at hx
          cases hx
          obtain ⟨z, hz, hzl, ez⟩ := pk_at hr (show y + t < r.pk.length by omega)
          obtain ⟨z2, hz2, hzl2, ez2⟩ := pk_at hr (show y + t + 1 < r.pk.length by omega)
          walk_at "go"
          rw [show (256 : Int) * (z : Int) + (z2 : Int) = ((256 * z + z2 : Nat) : Int) by omega]
          exact hk (256 * z + z2) (by omega) ⟨_, _, _, rfl, ha⟩
      | cell a t b ha h2 hb =>
        obtain ⟨y, hy, hyl, ey⟩ := ws_at hr hb
        cases hrdy with
        | other z => exact absurd (by decide) z
        | jumps z => exact absurd rfl (z _ _)
        | @cell _ _ _ m us x eT hx hl =>
          rw [hy] at hx
          cases hx
          have e2 : (r.tb.map Tab.enc)[t]? = some (.tuple [.str "array", I m, .tuple (us.map I)]) := by rw [List.getElem?_map, eT]; rfl
          have e3 := I_at (List.getElem?_eq_getElem hl)
          have hw : us[y] < 65536 := (hr.tbo _ (List.mem_of_getElem? eT)).1 _ (List.getElem_mem hl)
          walk_at "go"
          exact hk us[y] hw ⟨_, _, _, rfl, ha⟩
      | value a t b ha h2 hb =>
        obtain ⟨y, hy, hyl, ey⟩ := ws_at hr hb
        cases hrdy with
        | other z => exact absurd (by decide) z
        | jumps z => exact absurd rfl (z _ _)
        | @value _ _ _ m us x eT hx h1 hl =>
          rw [hy] at hx
          cases hx
          have e2 : (r.tb.map Tab.enc)[t]? = some (.tuple [.str "pairs", I m, .tuple (us.map fun q => .tuple [I q.1, I q.2])]) := by rw [List.getElem?_map, eT]; rfl
          have hl2 : y - 1 < us.length := by omega
          have e3 : (us.map fun q => PyData.tuple [I q.1, I q.2])[y - 1]? = some (.tuple [I us[y - 1].1, I us[y - 1].2]) := by rw [List.getElem?_map, List.getElem?_eq_getElem hl2]; rfl
          have hw : us[y - 1].2 < 65536 := (hr.tbo _ (List.mem_of_getElem? eT)).1 _ (List.getElem_mem hl2)
          walk_at "go"
          rw [show (y : Int) - 1 = ((y - 1 : Nat) : Int) by omega]
          walk_at "go"
          exact hk us[y - 1].2 hw ⟨_, _, _, rfl, ha⟩
      | find a t b ha h2 hb =>
        obtain ⟨y, hy, hyl, ey⟩ := ws_at hr hb
        cases hrdy with
        | other z => exact absurd (by decide) z
        | jumps z => exact absurd rfl (z _ _)
        | @find _ _ _ m us eT =>
          have e2 : (r.tb.map Tab.enc)[t]? = some (.tuple [.str "pairs", I m, .tuple (us.map fun q => .tuple [I q.1, I q.2])]) := by rw [List.getElem?_map, eT]; rfl
          have hul := (hr.tbo _ (List.mem_of_getElem? eT)).2
          have hul2 : (us.map fun q => PyData.tuple [I q.1, I q.2]).length ≤ 1000 := by rw [List.length_map]; exact hul
          walk_at "go"
          refine XE.lc (own := [("_law_k", 7)]) fm nd (blkOk_by (by decide +kernel)) ?_ (by walk_at "rr2")
          walk_at "go"
          rw [List.length_map]
          refine LcK.al (fun d => ∃ v : Nat, v < 65536 ∧ d = I v) (by rw [rngD_len]; omega) (fun d hd => ?_) fun acc hl hp => ?_
          · obtain ⟨i, hi⟩ := List.mem_iff_getElem?.mp hd
            obtain ⟨hi, rfl⟩ := rngD_get hi
            have hi : i < us.length := by omega
            have e3 : (us.map fun q => PyData.tuple [I q.1, I q.2])[i]? = some (.tuple [I us[i].1, I us[i].2]) := by rw [List.getElem?_map, List.getElem?_eq_getElem hi]; rfl
            rw [Int.zero_add]
            walk_at "go"
            refine ifb (fun h => ?_) (fun h => True.intro)
            walk_at "go"
            exact ⟨i + 1, by omega, rfl⟩
          rw [rngD_len] at hl
          have hl : acc.length ≤ 1000 := by omega
          walk_at "go"
          have fin : ∃ v : Nat, v < 65536 ∧ cutD (acc ++ [.int 0]) none (some 1) = [I v] := by
            rw [show (1 : Int) = ((1 : Nat) : Int) from rfl, cut_to (by simp)]
            cases acc with
            | nil => exact ⟨0, by decide, rfl⟩
            | cons a l =>
              obtain ⟨v, h1, h2⟩ := hp a List.mem_cons_self
              exact ⟨v, h1, by rw [h2]; rfl⟩
          obtain ⟨v, hv, ev⟩ := fin
          rw [ev]
          exact hk v hv ⟨_, _, _, rfl, ha⟩
end
def spGoing : Sc := fun ds k => ∃ (w : Row) (r : Run), ds = [w.enc, r.enc] ∧ w.Ok ∧ r.Ok ∧ ∀ (p' : Nat) (c' : List Nat), c'.length = 4 → (Goes w r.p r.cn p' c' ∨ ∃ a, w = .plain "answer" [I a]) → k (.tuple [I p', Ts c'])
def spBehind : Sc := fun ds k => ∃ (o : Str) (xs : List PyData) (r : Run), ds = [.tuple (.str o :: xs), r.enc] ∧ PlainOk o xs ∧ r.Ok ∧ Rdy r (.plain o xs) ∧ o ∈ (["fill", "count", "change"] : List Str) ∧ ∀ tb' : List Tab, tb'.length ≤ 100 → (∀ t ∈ tb', t.Ok) → k (.tuple (tb'.map Tab.enc))
theorem plain_not {o : Str} {xs : List PyData} (h : PlainOk o xs) : o ∉ (["begin", "again", "jump", "when", "whenn"] : List Str) := by
  cases h with
  | op o a b ho _ _ =>
    simp only [List.mem_cons, List.mem_nil_iff, or_false] at ho
    rcases ho with rfl | rfl | rfl | rfl | rfl | rfl | rfl <;> decide
  | opn o a b ho _ _ =>
    simp only [List.mem_cons, List.mem_nil_iff, or_false] at ho
    rcases ho with rfl | rfl | rfl | rfl <;> decide
  | sh o a b ho _ _ =>
    simp only [List.mem_cons, List.mem_nil_iff, or_false] at ho
    rcases ho with rfl | rfl <;> decide
  | _ => decide
theorem cn_at {r : Run} (hr : r.Ok) {b : Nat} (h : b < 4) : ∃ x, r.cn[b]? = some x ∧ (r.cn.map I)[b]? = some (I x) := by
  have hb : b < r.cn.length := by rw [hr.cn4]; exact h
  have e := List.getElem?_eq_getElem hb
  exact ⟨_, e, by rw [List.getElem?_map, e]; rfl⟩
section
variable {P : Program} {w : World} {K : PySem.W.Frag} {mg : Str → Option Value} {base : Heap}
theorem c_going (M : Md w K mg) (cq : CLPut P w K mg base 1 spPut) (ch : CLHolds P w K mg base 1 spHolds) : CLGoing P w K mg base 2 spGoing := by
  refine goLGoing M ?_ ?_
  · rintro ds k0 ⟨v, r, rfl, _⟩
    rfl
  · intro f cdv A outer s H E fm nd ds k0 h
    obtain ⟨v, r, rfl, hv, hr, hk⟩ := h
    have er : r.enc = .tuple [Ts r.ws, Ts r.ca, Ts r.cn, I r.p, Ts r.pk, .tuple (r.tb.map Tab.enc), I r.clk, I r.n, r.e, I r.wr] := rfl
    rw [er]
    have h4 := hr.cn4
    have h4' : (r.cn.map I).length = 4 := by rw [List.length_map]; exact h4
    cases v with
    | plain o xs =>
      have hn := plain_not hv
      simp only [List.mem_cons, List.mem_nil_iff, or_false, not_or] at hn
      obtain ⟨n1, n2, n3, n4, n5⟩ := hn
      simp only [Row.enc]
      walk_at "go"
      refine ifd (fun h => absurd h n1) (fun _ => ?_)
      walk_at "go"
      refine ifd (fun h => absurd h n2) (fun _ => ?_)
      walk_at "go"
      refine ifd (fun h => absurd h n3) (fun _ => ?_)
      walk_at "go"
      refine ifd (fun h => ?_) (fun _ => ?_)
      · simp only [List.mem_cons, List.mem_nil_iff, or_false] at h
        exact (h.elim n4 n5).elim
      walk_at "go"
      refine ifd (fun h => ?_) (fun _ => ?_)
      · subst h
        have hv : PlainOk "answer" xs := hv
        obtain ⟨a, rfl⟩ : ∃ a, xs = [I a] := by
          cases hv with
          | op _ a b ho => exact absurd ho (by decide)
          | opn _ a b ho => exact absurd ho (by decide)
          | sh _ a b ho => exact absurd ho (by decide)
          | answer a => exact ⟨a, rfl⟩
        walk_at "go"
        exact hk r.p r.cn h4 (.inr ⟨a, rfl⟩)
      · walk_at "go"
        exact hk (r.p + 1) r.cn h4 (.inl .plain)
    | begin l =>
      have hv : l < 4 := hv
      simp only [Row.enc]
      walk_at "go"
      refine ⟨_, l, _, rfl, by omega, by omega, True.intro, ?_⟩
      walk_at "go"
      have fin := hk (r.p + 1) (r.cn.set l 0) (by simpa using h4) (.inl .begin)
      unfold Ts at fin
      rw [List.map_set] at fin
      exact fin
    | again l m d =>
      obtain ⟨h1, h2, h3, h5⟩ := hv
      obtain ⟨x, hx, ex⟩ := cn_at hr h1
      simp only [Row.enc]
      walk_at "go"
      refine ifd (fun h => ?_) (fun h => ?_)
      · walk_at "go"
        refine ⟨_, l, _, rfl, by omega, by omega, True.intro, ?_⟩
        walk_at "go"
        have fin := hk d (r.cn.set l (x + 1)) (by simpa using h4) (.inl (.back hx (by omega)))
        unfold Ts at fin
        rw [List.map_set] at fin
        exact fin
      · walk_at "go"
        exact hk (r.p + 1) r.cn h4 (.inl (.on hx (by omega)))
    | jump d =>
      simp only [Row.enc]
      walk_at "go"
      exact hk d r.cn h4 (.inl .jump)
    | when c a b d =>
      obtain ⟨h1, h2, h3, h5⟩ := hv
      obtain ⟨x, hx, hxl, ex⟩ := ws_at hr h2
      obtain ⟨y, hy, hyl, ey⟩ := ws_at hr h3
      simp only [Row.enc]
      walk_at "go"
      refine ⟨_, x, y, rfl, h1, fun z => ?_⟩
      walk_at "go"
      refine ifb (fun h => ?_) (fun h => ?_)
      · walk_at "go"
        exact hk d r.cn h4 (.inl .when)
      · walk_at "go"
        exact hk (r.p + 1) r.cn h4 (.inl .when0)
    | whenn c a n d =>
      obtain ⟨h1, h2, h3, h5⟩ := hv
      obtain ⟨x, hx, hxl, ex⟩ := ws_at hr h2
      simp only [Row.enc]
      walk_at "go"
      refine ⟨_, x, n, rfl, h1, fun z => ?_⟩
      walk_at "go"
      refine ifb (fun h => ?_) (fun h => ?_)
      · walk_at "go"
        exact hk d r.cn h4 (.inl .whenn)
      · walk_at "go"
        exact hk (r.p + 1) r.cn h4 (.inl .whenn0)
end
section
variable {P : Program} {w : World} {K : PySem.W.Frag} {mg : Str → Option Value} {base : Heap}
theorem set_tab {r : Run} (hr : r.Ok) {t : Nat} {T : Tab} (hT : T.Ok) : (r.tb.set t T).length ≤ 100 ∧ ∀ q ∈ r.tb.set t T, q.Ok := by
  refine ⟨by rw [List.length_set]; exact hr.tbl, fun q hq => ?_⟩
  rcases List.mem_or_eq_of_mem_set hq with h | h
  · exact hr.tbo q h
  · rw [h]
    exact hT
theorem wds_set {us : List Nat} (h : Wds us) {i v : Nat} (hv : v < 65536) : Wds (us.set i v) := fun q hq => by
  rcases List.mem_or_eq_of_mem_set hq with z | z
  · exact h q z
  · rw [z]
    exact hv
theorem c_behind (M : Md w K mg) (ct : CLTableOf P w K mg base 1 spTableOf) (cq : CLPut P w K mg base 1 spPut) : CLTablesBehind P w K mg base 2 spBehind := by
  refine goLTablesBehind M ?_ ?_
  · rintro ds k0 ⟨o, xs, r, rfl, _⟩
    rfl
  · intro f cdv A outer s H E fm nd ds k0 h
    obtain ⟨o, xs, r, rfl, hv, hr, hrdy, ho, hk⟩ := h
    have er : r.enc = .tuple [Ts r.ws, Ts r.ca, Ts r.cn, I r.p, Ts r.pk, .tuple (r.tb.map Tab.enc), I r.clk, I r.n, r.e, I r.wr] := rfl
    rw [er]
    have tl : (r.tb.map Tab.enc).length ≤ 1000 := by rw [List.length_map]; have := hr.tbl; omega
    generalize hw : Row.plain o xs = v at hrdy
    cases hrdy with
    | other z =>
      cases hw
      exact absurd (by simp only [List.mem_cons, List.mem_nil_iff, or_false] at ho ⊢; rcases ho with h | h | h <;> simp [h]) z
    | jumps z => exact absurd hw.symm (z _ _)
    | cell => cases hw; exact absurd ho (by decide)
    | find => cases hw; exact absurd ho (by decide)
    | value => cases hw; exact absurd ho (by decide)
    | byte => cases hw; exact absurd ho (by decide)
    | pair => cases hw; exact absurd ho (by decide)
    | write => cases hw; exact absurd ho (by decide)
    | @fill a t b m us x eT hx hl =>
      cases hw
      have ha : a < 8 := by
        cases hv with
        | fill _ _ _ h => exact h
      obtain ⟨y, hy, hyl, ey⟩ := ws_at hr ha
      have ex := I_at hx
      have e2 : (r.tb.map Tab.enc)[t]? = some (.tuple [.str "array", I m, .tuple (us.map I)]) := by rw [List.getElem?_map, eT]; rfl
      have ht : t < (r.tb.map Tab.enc).length := by
        by_cases h : t < (r.tb.map Tab.enc).length
        · exact h
        · rw [List.getElem?_eq_none (by omega)] at e2
          cases e2
      have hT := hr.tbo _ (List.mem_of_getElem? eT)
      walk_at "go"
      refine ⟨_, _, rfl, fun _ => by simp, fun _ => by simp, ?_⟩
      walk_at "go"
      refine ⟨_, x, _, rfl, by rw [List.length_map]; exact hl, by rw [List.length_map]; exact hT.2, True.intro, ?_⟩
      walk_at "go"
      refine ⟨_, t, _, rfl, ht, tl, True.intro, ?_⟩
      obtain ⟨g1, g2⟩ := set_tab hr (t := t) (T := .arr m (us.set x y)) ⟨wds_set hT.1 hyl, by rw [List.length_set]; exact hT.2⟩
      have fin := hk _ g1 g2
      rw [List.map_set] at fin
      simp only [Tab.enc, Ts, List.map_set] at fin
      exact fin
    | @count t b m us x eT hx hl =>
      cases hw
      have ex := I_at hx
      have e2 : (r.tb.map Tab.enc)[t]? = some (.tuple [.str "array", I m, .tuple (us.map I)]) := by rw [List.getElem?_map, eT]; rfl
      have ht : t < (r.tb.map Tab.enc).length := by
        by_cases h : t < (r.tb.map Tab.enc).length
        · exact h
        · rw [List.getElem?_eq_none (by omega)] at e2
          cases e2
      have hT := hr.tbo _ (List.mem_of_getElem? eT)
      have ez := I_at (List.getElem?_eq_getElem hl)
      walk_at "go"
      refine ⟨_, _, rfl, fun z => absurd z (by decide), fun _ => by simp, ?_⟩
      walk_at "go"
      refine ⟨_, x, .int (((us[x] : Nat) + 1 : Int) % 65536), rfl, by rw [List.length_map]; exact hl, by rw [List.length_map]; exact hT.2, True.intro, ?_⟩
      rw [show (PyData.int (((us[x] : Nat) + 1 : Int) % 65536)) = I ((us[x] + 1) % 65536) from congrArg PyData.int (by omega)]
      walk_at "go"
      refine ⟨_, t, _, rfl, ht, tl, True.intro, ?_⟩
      obtain ⟨g1, g2⟩ := set_tab hr (t := t) (T := .arr m (us.set x ((us[x] + 1) % 65536))) ⟨wds_set hT.1 (by omega), by rw [List.length_set]; exact hT.2⟩
      have fin := hk _ g1 g2
      rw [List.map_set] at fin
      simp only [Tab.enc, Ts, List.map_set] at fin
      exact fin
    | @change a t b m us x eT hx h1 hl =>
      cases hw
      have ha : a < 8 := by
        cases hv with
        | change _ _ _ h => exact h
      obtain ⟨y, hy, hyl, ey⟩ := ws_at hr ha
      have ex := I_at hx
      have e2 : (r.tb.map Tab.enc)[t]? = some (.tuple [.str "pairs", I m, .tuple (us.map fun q => .tuple [I q.1, I q.2])]) := by rw [List.getElem?_map, eT]; rfl
      have ht : t < (r.tb.map Tab.enc).length := by
        by_cases h : t < (r.tb.map Tab.enc).length
        · exact h
        · rw [List.getElem?_eq_none (by omega)] at e2
          cases e2
      have hT := hr.tbo _ (List.mem_of_getElem? eT)
      have hl2 : x - 1 < us.length := by omega
      have ez : (us.map fun q => PyData.tuple [I q.1, I q.2])[x - 1]? = some (.tuple [I us[x - 1].1, I us[x - 1].2]) := by rw [List.getElem?_map, List.getElem?_eq_getElem hl2]; rfl
      walk_at "go"
      refine ⟨_, _, rfl, fun _ => by simp, fun _ => by simp, ?_⟩
      walk_at "go"
      rw [show (x : Int) - 1 = ((x - 1 : Nat) : Int) by omega]
      walk_at "go"
      refine ⟨_, x - 1, _, rfl, by rw [List.length_map]; exact hl2, by rw [List.length_map]; exact hT.2, True.intro, ?_⟩
      walk_at "go"
      refine ⟨_, t, _, rfl, ht, tl, True.intro, ?_⟩
      obtain ⟨g1, g2⟩ := set_tab hr (t := t) (T := .prs m (us.set (x - 1) (us[x - 1].1, y))) ⟨fun q hq => by
        rcases List.mem_or_eq_of_mem_set hq with z | z
        · exact hT.1 q z
        · rw [z]
          exact hyl, by rw [List.length_set]; exact hT.2⟩
      have fin := hk _ g1 g2
      rw [List.map_set] at fin
      simp only [Tab.enc, List.map_set] at fin
      exact fin
def spStep : Sc := fun ds k => ∃ (rs : List Row) (r : Run), ds = [encS rs, r.enc] ∧ SieveOk rs ∧ r.Ok ∧ ∀ r' : Run, r'.Ok → Stp rs r r' → k r'.enc
def FoundOk (v : Row) (L : List PyData) : Prop := L = [] ∨ ∃ x : Nat, x < 65536 ∧ L = [I x] ∧ ∃ o a xs, v = .plain o (I a :: xs) ∧ a < 8
theorem found_two {Q : PyData → Prop} {v : Row} {r : Run} (hv : v.Ok) (hr : r.Ok) (hrdy : Rdy r v) (H : ∀ L, FoundOk v L → Q (.list L)) : spFound [v.enc, r.enc] Q :=
  ⟨v, r, rfl, hv, hr, hrdy, fun x hx h => H _ (.inr ⟨x, hx, rfl, h⟩), H _ (.inl rfl)⟩
theorem row_plain {v : Row} {o : Str} {ys : List PyData} (e : v.enc = .tuple (.str o :: ys)) (h : o ∉ (["begin", "again", "jump", "when", "whenn"] : List Str)) : v = .plain o ys := by
  cases v with
  | plain o xs => cases e; rfl
  | begin => cases e; exact absurd (by decide) h
  | again => cases e; exact absurd (by decide) h
  | jump => cases e; exact absurd (by decide) h
  | when => cases e; exact absurd (by decide) h
  | whenn => cases e; exact absurd (by decide) h
theorem row_head (v : Row) : ∃ (o : Str) (ys : List PyData), v.enc = .tuple (.str o :: ys) := by
  cases v <;> exact ⟨_, _, rfl⟩
theorem c_step (M : Md w K mg) (cq : CLPut P w K mg base 1 spPut) (cf : CLFault P w K mg base 3 spFault) (cg : CLGoing P w K mg base 2 spGoing) (co : CLFound P w K mg base 2 spFound) (cb : CLTablesBehind P w K mg base 2 spBehind) : CLStep P w K mg base 4 spStep := by
  refine goLStep M ?_ ?_
  · rintro ds k0 ⟨v, r, rfl, _⟩
    rfl
  · intro f cdv A outer s H E fm nd ds k0 h
    obtain ⟨rs, r, rfl, hs, hr, hk⟩ := h
    have er : r.enc = .tuple [Ts r.ws, Ts r.ca, Ts r.cn, I r.p, Ts r.pk, .tuple (r.tb.map Tab.enc), I r.clk, I r.n, r.e, I r.wr] := rfl
    have e0 : encS rs = .tuple (rs.map Row.enc) := rfl
    have lr : (rs.map Row.enc).length = rs.length := List.length_map _
    have hrl := hs.len
    rw [e0]
    by_cases he : r.e = .none
    · rw [er, he]
      walk_at "go"
      refine ⟨_, 7, _, rfl, Nat.le_of_ble_eq_true rfl, Nat.le_of_ble_eq_true rfl, True.intro, ?_⟩
      have ok1 : Run.Ok { r with n := r.n + 1, e := .none } := ⟨hr.ws8, hr.wsw, hr.ca16, hr.caw, hr.cn4, hr.pkl, hr.pkb, hr.tbl, hr.tbo, hr.clk, .inl rfl⟩
      walk_at "go"
      rw [lr]
      refine ifd (fun h => ?_) (fun h => ?_)
      · walk_at "go"
        refine ⟨_, 8, _, rfl, Nat.le_of_ble_eq_true rfl, Nat.le_of_ble_eq_true rfl, True.intro, ?_⟩
        exact hk { r with n := r.n + 1, e := .tuple [.str "fault", .str "place"] } ⟨hr.ws8, hr.wsw, hr.ca16, hr.caw, hr.cn4, hr.pkl, hr.pkb, hr.tbl, hr.tbo, hr.clk, .inr (.inl ⟨_, by decide +kernel, rfl⟩)⟩ (.out he (by omega) rfl rfl)
      have hp : r.p < rs.length := by omega
      have ev := List.getElem?_eq_getElem hp
      have hv := hs.rows _ (List.getElem_mem hp)
      generalize rs[r.p] = v at ev hv
      have ev2 : (rs.map Row.enc)[r.p]? = some v.enc := by rw [List.getElem?_map, ev]; rfl
      walk_at "go"
      refine ⟨v, { r with n := r.n + 1, e := .none }, rfl, hv, ok1, fun sx hsx => ?_, fun hrdy => ?_⟩
      · walk_at "go"
        refine ⟨_, 8, _, rfl, Nat.le_of_ble_eq_true rfl, Nat.le_of_ble_eq_true rfl, True.intro, ?_⟩
        exact hk { r with n := r.n + 1, e := .tuple [.str "fault", .str sx] } ⟨hr.ws8, hr.wsw, hr.ca16, hr.caw, hr.cn4, hr.pkl, hr.pkb, hr.tbl, hr.tbo, hr.clk, .inr (.inl ⟨_, hsx, rfl⟩)⟩ (.ends he hp rfl (fun z => by cases z))
      walk_at "go"
      refine ⟨v, { r with n := r.n + 1, e := .none }, rfl, hv, ok1, fun p' c' hc4 hgo => ?_⟩
      walk_at "go"
      refine found_two (v := v) (r := { r with n := r.n + 1, e := .none }) hv ok1 hrdy fun L hL => ?_
      walk_at "1"
      refine XS.im (fun s' => ∃ ws' : List Nat, s' = ([some (.tuple (rs.map Row.enc)), some (Run.enc { r with n := r.n + 1, e := .none }), some v.enc, some .none, some (I p'), some (Ts c'), some (Ts ws'), some (.list L), none], none) ∧ ws'.length = 8 ∧ Wds ws') ?_ ?_
      · have hsh : ∀ x ∈ L, Sh 0 x := by
          rcases hL with rfl | ⟨x, _, rfl, _⟩
          · exact shl_nil
          · exact shl_cons (sh_int _) shl_nil
        walk_at "go"
        refine eqK_nil hsh (by omega) ?_
        rcases hL with rfl | ⟨x, hx, rfl, o, a, xs, rfl, ha⟩
        · walk_at "go"
          exact ⟨hr.ws8, hr.wsw⟩
        · simp only [Row.enc]
          walk_at "go"
          refine ix_of (i := 1) (.inl rfl) rfl ?_
          walk_at "go"
          refine ⟨_, a, _, rfl, by rw [List.length_map, hr.ws8]; exact ha, by rw [List.length_map, hr.ws8]; decide, True.intro, ?_⟩
          walk_at "go"
          exact ⟨r.ws.set a x, by unfold Ts; rw [List.map_set]; rfl, by rw [List.length_set]; exact hr.ws8, wds_set hr.wsw hx⟩
      rintro s' ⟨ws', rfl, hw8, hww⟩
      clear hL
      have g1 : Run.Ok { r with n := r.n + 1, e := .none, ws := ws', cn := c', p := p' } := ⟨hw8, hww, hr.ca16, hr.caw, hc4, hr.pkl, hr.pkb, hr.tbl, hr.tbo, hr.clk, .inl rfl⟩
      have go1 : ∀ r' : Run, r'.Ok → r'.n = r.n + 1 → r'.e = .none → r'.p = p' → r'.cn = c' → (¬ ∃ a, v = .plain "answer" [I a]) → k0 r'.enc := fun r' h1 h2 h3 h4 h5 h6 =>
        hk r' h1 (.goes v he ev h2 h3 (by rw [h4, h5]; exact hgo.resolve_right h6))
      obtain ⟨o, ys, eo⟩ := row_head v
      have enc1 : Run.enc { r with n := r.n + 1, e := .none } = .tuple [Ts r.ws, Ts r.ca, Ts r.cn, I r.p, Ts r.pk, .tuple (r.tb.map Tab.enc), I r.clk, I (r.n + 1), .none, I r.wr] := rfl
      by_cases hkeep : o = "keep"
      · subst hkeep
        have e1 := row_plain eo (by decide)
        subst e1
        have hv : PlainOk "keep" ys := hv
        cases hv with
        | op _ a b ho => exact absurd ho (by decide)
        | opn _ a b ho => exact absurd ho (by decide)
        | sh _ a b ho => exact absurd ho (by decide)
        | keep a q ha hq =>
          obtain ⟨x, hx, hxl, ex⟩ := ws_at hr ha
          rw [eo, enc1]
          walk_at "go"
          refine ⟨_, q, _, rfl, by rw [List.length_map, hr.ca16]; exact hq, by rw [List.length_map, hr.ca16]; decide, True.intro, ?_⟩
          walk_at "go"
          refine ⟨_, 1, _, rfl, Nat.le_of_ble_eq_true rfl, Nat.le_of_ble_eq_true rfl, True.intro, ?_⟩
          walk_at "go"
          have fin := go1 { r with n := r.n + 1, e := .none, ws := ws', cn := c', p := p', ca := r.ca.set q x } ⟨hw8, hww, by rw [List.length_set]; exact hr.ca16, wds_set hr.caw hxl, hc4, hr.pkl, hr.pkb, hr.tbl, hr.tbo, hr.clk, .inl rfl⟩ rfl rfl rfl rfl (fun ⟨_, z⟩ => by cases z)
          simp only [Run.enc, Ts, List.map_set] at fin
          exact fin
      by_cases hwr : o = "write"
      · subst hwr
        have e1 := row_plain eo (by decide)
        subst e1
        cases hrdy with
        | other z => exact absurd (by decide) z
        | jumps z => exact absurd rfl (z _ _)
        | @write a b t x hx hl =>
          have hv : PlainOk "write" [I a, I b, I t] := hv
          have ha : a < 8 := by
            cases hv with
            | write _ _ _ h => exact h
          have ex := I_at hx
          obtain ⟨y, hy, hyl, ey⟩ := ws_at hr ha
          have hl : x + t + 1 ≤ r.pk.length := hl
          rw [eo, enc1]
          walk_at "go"
          rw [show (y : Int) % 256 = ((y % 256 : Nat) : Int) by omega]
          refine ⟨_, x + t, I (y % 256), rfl, by rw [List.length_map]; omega, by rw [List.length_map]; exact hr.pkl, True.intro, ?_⟩
          walk_at "go"
          refine ⟨_, 4, _, rfl, Nat.le_of_ble_eq_true rfl, Nat.le_of_ble_eq_true rfl, True.intro, ?_⟩
          walk_at "go"
          have fin := go1 { r with n := r.n + 1, e := .none, ws := ws', cn := c', p := p', pk := r.pk.set (x + t) (y % 256) } ⟨hw8, hww, hr.ca16, hr.caw, hc4, by rw [List.length_set]; exact hr.pkl, fun q hq => by
            rcases List.mem_or_eq_of_mem_set hq with z | z
            · exact hr.pkb q z
            · rw [z]
              omega, hr.tbl, hr.tbo, hr.clk, .inl rfl⟩ rfl rfl rfl rfl (fun ⟨_, z⟩ => by cases z)
          simp only [Run.enc, Ts, List.map_set] at fin
          exact fin
      by_cases htb : o ∈ (["fill", "count", "change"] : List Str)
      · have e1 := row_plain eo (fun z => by
          simp only [List.mem_cons, List.mem_nil_iff, or_false] at htb z
          rcases htb with rfl | rfl | rfl <;> exact absurd z (by decide))
        subst e1
        have han : o ≠ "answer" := fun z => by
          rw [z] at htb
          exact absurd htb (by decide)
        rw [eo, enc1]
        walk_at "go"
        refine ifd (fun h => absurd h hkeep) (fun _ => ?_)
        walk_at "go"
        refine ifd (fun h => absurd h hwr) (fun _ => ?_)
        walk_at "go"
        refine ifd (fun _ => ?_) (fun h => absurd htb h)
        walk_at "go"
        refine ⟨o, ys, { r with n := r.n + 1, e := .none }, rfl, hv, ok1, hrdy, htb, fun tb' h1 h2 => ?_⟩
        walk_at "go"
        refine ⟨_, 5, _, rfl, Nat.le_of_ble_eq_true rfl, Nat.le_of_ble_eq_true rfl, True.intro, ?_⟩
        walk_at "go"
        exact go1 { r with n := r.n + 1, e := .none, ws := ws', cn := c', p := p', tb := tb' } ⟨hw8, hww, hr.ca16, hr.caw, hc4, hr.pkl, hr.pkb, h1, h2, hr.clk, .inl rfl⟩ rfl rfl rfl rfl (fun ⟨_, z⟩ => by cases z; exact han rfl)
      by_cases han : o = "answer"
      · subst han
        have e1 := row_plain eo (by decide)
        subst e1
        have hv : PlainOk "answer" ys := hv
        cases hv with
        | op _ a b ho => exact absurd ho (by decide)
        | opn _ a b ho => exact absurd ho (by decide)
        | sh _ a b ho => exact absurd ho (by decide)
        | answer a ha =>
          obtain ⟨x, hx, hxl, ex⟩ := ws_at hr ha
          rw [eo, enc1]
          walk_at "go"
          refine ⟨_, 8, _, rfl, Nat.le_of_ble_eq_true rfl, Nat.le_of_ble_eq_true rfl, True.intro, ?_⟩
          walk_at "go"
          exact hk { r with n := r.n + 1, e := .tuple [.str "answer", I x], ws := ws', cn := c', p := p' } ⟨hw8, hww, hr.ca16, hr.caw, hc4, hr.pkl, hr.pkb, hr.tbl, hr.tbo, hr.clk, .inr (.inr ⟨x, rfl⟩)⟩ (.ends he hp rfl (fun z => by cases z))
      rw [eo, enc1]
      walk_at "go"
      refine ifd (fun h => absurd h hkeep) (fun _ => ?_)
      walk_at "go"
      refine ifd (fun h => absurd h hwr) (fun _ => ?_)
      walk_at "go"
      refine ifd (fun h => absurd h htb) (fun _ => ?_)
      walk_at "go"
      refine ifd (fun h => absurd h han) (fun _ => ?_)
      walk_at "go"
      refine go1 _ g1 rfl rfl rfl rfl ?_
      rintro ⟨a, rfl⟩
      cases eo
      exact han rfl
    · have hn : isNone r.e = false := by
        rcases hr.en with h | ⟨_, _, h⟩ | ⟨_, h⟩
        · exact absurd h he
        · rw [h]; rfl
        · rw [h]; rfl
      rw [er]
      walk_at "go"
      refine ifT (c := !isNone r.e) (by rw [hn]; rfl) ?_
      walk_at "go"
      exact hk r hr (.over he rfl)
end
def spLoop : Sc := fun ds k => ∃ (rs : List Row) (p l m d : Nat), ds = [encS rs, I p] ∧ rs.length ≤ 100 ∧ rs[p]? = some (.again l m d) ∧ d < 120 ∧ k (.list ((List.range' d (p + 1 - d)).map I))
def spAgains : Sc := fun ds k => ∃ (rs : List Row), ds = [encS rs] ∧ SieveOk rs ∧ k (.list ((ags rs).map I))
theorem plain_no {o : Str} {xs : List PyData} (h : PlainOk o xs) : o ≠ "begin" ∧ o ≠ "again" ∧ o ≠ "jump" ∧ o ≠ "when" ∧ o ≠ "whenn" := by
  cases h with
  | op o a b ho _ _ =>
    simp only [List.mem_cons, List.mem_nil_iff, or_false] at ho
    rcases ho with rfl | rfl | rfl | rfl | rfl | rfl | rfl <;> decide
  | opn o a b ho _ _ =>
    simp only [List.mem_cons, List.mem_nil_iff, or_false] at ho
    rcases ho with rfl | rfl | rfl | rfl <;> decide
  | sh o a b ho _ _ =>
    simp only [List.mem_cons, List.mem_nil_iff, or_false] at ho
    rcases ho with rfl | rfl <;> decide
  | _ => decide
/-- a row by its name -/
theorem row_name {v : Row} (hv : v.Ok) : ∃ (o : Str) (ys : List PyData), v.enc = .tuple (.str o :: ys) ∧ (o = "again" ↔ v.ag.isSome = true) := by
  cases v with
  | plain o xs => exact ⟨o, xs, rfl, ⟨fun z => absurd z (plain_no hv).2.1, fun z => nomatch z⟩⟩
  | again l m d => exact ⟨_, _, rfl, ⟨fun _ => rfl, fun _ => rfl⟩⟩
  | begin l => exact ⟨_, _, rfl, ⟨fun z => absurd z (by decide), fun z => nomatch z⟩⟩
  | jump d => exact ⟨_, _, rfl, ⟨fun z => absurd z (by decide), fun z => nomatch z⟩⟩
  | when c a b d => exact ⟨_, _, rfl, ⟨fun z => absurd z (by decide), fun z => nomatch z⟩⟩
  | whenn c a n d => exact ⟨_, _, rfl, ⟨fun z => absurd z (by decide), fun z => nomatch z⟩⟩
theorem row_at {rs : List Row} (hs : SieveOk rs) {p : Nat} (hp : p < rs.length) : ∃ v, rs[p]? = some v ∧ v.Ok ∧ (rs.map Row.enc)[p]? = some v.enc := by
  have e := List.getElem?_eq_getElem hp
  exact ⟨_, e, hs.rows _ (List.getElem_mem hp), by rw [List.getElem?_map, e]; rfl⟩
section
variable {P : Program} {w : World} {K : PySem.W.Frag} {mg : Str → Option Value} {base : Heap}
theorem c_loop (M : Md w K mg) : CLLoop P w K mg base 1 spLoop := by
  refine goLLoop M ?_ ?_
  · rintro ds k0 ⟨rs, p, l, m, d, rfl, _⟩
    rfl
  · intro f cdv A outer s H E fm nd ds k0 h
    obtain ⟨rs, p, l, m, d, rfl, hl, e, hd, hk⟩ := h
    have e0 : encS rs = .tuple (rs.map Row.enc) := rfl
    rw [e0]
    have e2 : (rs.map Row.enc)[p]? = some (.tuple [.str "again", I l, I m, I d]) := by rw [List.getElem?_map, e]; rfl
    have hp : p < rs.length := by
      by_cases h : p < rs.length
      · exact h
      · rw [List.getElem?_eq_none (by omega)] at e
        cases e
    walk_at "go"
    rw [rngD_seg, show ((p : Int) + 1 - (d : Int)).toNat = p + 1 - d by omega]
    exact hk
theorem c_agains (M : Md w K mg) : CLAgains P w K mg base 1 spAgains := by
  refine goLAgains M ?_ ?_
  · rintro ds k0 ⟨rs, rfl, _⟩
    rfl
  · intro f cdv A outer s H E fm nd ds k0 h
    obtain ⟨rs, rfl, hs, hk⟩ := h
    have e0 : encS rs = .tuple (rs.map Row.enc) := rfl
    rw [e0]
    have hl := hs.len
    have hl2 : (rs.map Row.enc).length ≤ 1000 := by rw [List.length_map]; omega
    walk_at "go"
    refine XE.lc (own := [("_law_place", 1)]) fm nd (blkOk_by (by decide +kernel)) ?_ (by walk_at "rr2")
    walk_at "go"
    rw [List.length_map]
    refine LcK.fa (List.range rs.length) (fun (j : Nat) => .int (0 + (j : Int))) (fun j => if (agAt rs j).isSome = true then some (I j) else none) (by rw [List.length_range]; omega) (fun j hj => ?_) ?_
    · have hj := List.mem_range.mp hj
      obtain ⟨v, ev, hv, ev2⟩ := row_at hs hj
      obtain ⟨o, ys, eo, ho⟩ := row_name hv
      rw [eo] at ev2
      have ag : agAt rs j = v.ag := by unfold agAt; rw [ev]; rfl
      rw [ag, Int.zero_add]
      walk_at "go"
      refine ifd (fun h => ?_) (fun h => ?_)
      · walk_at "go"
        rw [if_pos (ho.mp h)]
      · rw [if_neg fun z => h (ho.mpr z)]
    · have e : (List.range rs.length).filterMap (fun j => if (agAt rs j).isSome = true then some (I j) else none) = (ags rs).map I := by
        unfold ags
        generalize List.range rs.length = l
        induction l with
        | nil => rfl
        | cons a l ih =>
          rw [List.filterMap_cons, List.filter_cons]
          by_cases h : (agAt rs a).isSome = true
          · rw [if_pos h, if_pos h, ih]
            rfl
          · rw [if_neg h, if_neg h, ih]
      rw [e]
      walk_at "go"
      exact hk
end
abbrev ci (n : Nat) : Int := (n : Int)
theorem I_ints (xs : List Nat) : xs.map I = (xs.map ci).map PyData.int := by rw [List.map_map]; rfl
theorem cast_inj {xs ys : List Nat} : xs.map ci = ys.map ci ↔ xs = ys := by
  constructor
  · intro h
    induction xs generalizing ys with
    | nil =>
      cases ys with
      | nil => rfl
      | cons _ _ => cases h
    | cons x xs ih =>
      cases ys with
      | nil => cases h
      | cons y ys =>
        rw [List.map_cons, List.map_cons] at h
        injection h with h1 h2
        rw [ih h2, Int.ofNat.inj h1]
  · intro h
    rw [h]
theorem eqK_I {kt : Bool → Prop} {xs ys : List Nat} (hk : kt (decide (xs = ys))) : EqK (.list (xs.map I)) (.list (ys.map I)) kt := by
  rw [I_ints, I_ints]
  refine eqK_ints ?_
  rw [show decide (xs.map ci = ys.map ci) = decide (xs = ys) from decide_eq_decide.mpr cast_inj]
  exact hk
section
variable {ι : Type} {K : PySem.W.Frag} {X : ι → Cx} {a b : Expr} {δ : DS} {pos : Pos} {P : Program} {w : World} {mg : Str → Option Value} {base : Heap} {N : List Str} {sc : Scope} {n : Nat} {kt : Bool → Prop}
theorem XT.inI (f : Fm P w K mg base N sc n X) (ha : XE K X a δ fun d1 => XE K X b δ fun d2 => ∃ (x : Nat) (ns : List Nat), d1 = I x ∧ d2 = .list (ns.map I) ∧ kt (decide (x ∈ ns))) (hm : behindInMarks .In b = false) : XT K X (.Compare a [.In] [b] pos) δ kt :=
  XT.isin f (ha.imp fun _ h => h.imp fun _ ⟨x, ns, e1, e2, hk⟩ => .inr (.inl ⟨(x : Int), ns.map ci, e1, by rw [e2, I_ints], by
    rw [show decide ((x : Int) ∈ ns.map ci) = decide (x ∈ ns) from decide_eq_decide.mpr ⟨fun h => by
      obtain ⟨y, hy, e⟩ := List.mem_map.mp h
      rw [← Int.ofNat.inj e]
      exact hy, fun h => List.mem_map.mpr ⟨x, h, rfl⟩⟩]
    exact hk⟩)) hm
end
def spIsCrossed : Sc := fun ds k => ∃ (rs : List Row) (p l m d : Nat), ds = [encS rs, I p] ∧ SieveOk rs ∧ rs[p]? = some (.again l m d) ∧ d ≤ p ∧ k (.bool (crossed rs l d p))
section
variable {P : Program} {w : World} {K : PySem.W.Frag} {mg : Str → Option Value} {base : Heap}
theorem c_is_crossed (M : Md w K mg) (c1 : CLLoop P w K mg base 1 spLoop) (c2 : CLAgains P w K mg base 1 spAgains) : CLIsCrossed P w K mg base 2 spIsCrossed := by
  refine goLIsCrossed M ?_ ?_
  · rintro ds k0 ⟨rs, p, l, m, d, rfl, _⟩
    rfl
  · intro f cdv A outer s H E fm nd ds k0 h
    obtain ⟨rs, p, l, m, d, rfl, hs, e, hdp, hk⟩ := h
    have e0 : encS rs = .tuple (rs.map Row.enc) := rfl
    rw [e0]
    have hl := hs.len
    have ep : (rs.map Row.enc)[p]? = some (.tuple [.str "again", I l, I m, I d]) := by rw [List.getElem?_map, e]; rfl
    have hp : p < rs.length := by
      by_cases h : p < rs.length
      · exact h
      · rw [List.getElem?_eq_none (by omega)] at e
        cases e
    walk_at "go"
    refine ⟨rs, p, l, m, d, rfl, hl, e, by omega, ?_⟩
    walk_at "go"
    refine XS.for fm [3] (fun i s' => ∃ o1 o2 o3, s' = ([some (.tuple (rs.map Row.enc)), some (I p), some (.list ((List.range' d (p + 1 - d)).map I)), o1, o2, o3, none], none) ∧ ∀ j q, j < i → (ags rs)[j]? = some q → crossQ rs l d p q = false) (by walk_at "rr2") ?_
    refine XI.list fm ?_
    walk_at "go"
    refine ⟨rs, rfl, hs, ?_⟩
    walk_at "go"
    refine ⟨⟨none, none, none, rfl, fun j q z => by omega⟩, fun i dd δ' m' hd hP => ?_, fun δ' m' hP => ?_⟩
    · obtain ⟨o1, o2, o3, es, hc⟩ := hP
      cases es
      rw [List.getElem?_map] at hd
      cases eq : (ags rs)[i]? with
      | none =>
        rw [eq] at hd
        cases hd
      | some q =>
        rw [eq] at hd
        cases hd
        obtain ⟨hq, l2, m2, d2, eq2, ag⟩ := ags_ok (List.mem_of_getElem? eq)
        have eq3 : (rs.map Row.enc)[q]? = some (.tuple [.str "again", I l2, I m2, I d2]) := by rw [List.getElem?_map, eq2]; rfl
        have hd2 := (hs.rows _ (List.mem_of_getElem? eq2)).2.2.2
        refine ⟨fun q e => (by cases e), ?_⟩
        walk_at "go"
        refine ⟨rs, q, l2, m2, d2, rfl, hl, eq2, hd2, ?_⟩
        walk_at "go"
        refine XS.lcS fm nd (by walk_at "at") (by rfl) [("_law_at", 6)] (blkOk_by (by decide +kernel)) ?_ (by walk_at "rr") (by walk_at "rr2")
        refine XI.list fm ?_
        walk_at "go"
        refine LcK.fa (List.range' d (p + 1 - d)) I (fun x => if x ∈ List.range' d2 (q + 1 - d2) then some (I x) else none) (by rw [List.length_range']; omega) (fun x hx => ?_) ?_
        · walk_at "gn"
          refine XT.inI (Fm.blk fm _) ?_ (by rfl)
          walk_at "go"
          refine ifd (fun h => ?_) (fun h => ?_)
          · walk_at "go"
            rw [if_pos h]
          · rw [if_neg h]
        have eb : (List.range' d (p + 1 - d)).filterMap (fun x => if x ∈ List.range' d2 (q + 1 - d2) then some (I x) else none) = (both d p d2 q).map I := by
          unfold both
          generalize List.range' d (p + 1 - d) = l
          induction l with
          | nil => rfl
          | cons a l ih =>
            rw [List.filterMap_cons, List.filter_cons]
            by_cases h : a ∈ List.range' d2 (q + 1 - d2)
            · rw [if_pos h, if_pos (decide_eq_true h), ih]
              rfl
            · rw [if_neg h, if_neg (by simpa using h), ih]
        rw [eb]
        walk_at "gt"
        refine XT.imp (k := fun z => z = decide (q = p ∨ both d p d2 q = [])) ?_ ?_
        · walk_at "go"
          refine ifd (fun h => ?_) (fun h => ?_)
          · walk_at "go"
            exact (decide_eq_true (.inl (Int.ofNat.inj h))).symm
          · walk_at "go"
            refine eqK_I (ys := []) ?_
            exact decide_eq_decide.mpr ⟨.inr, fun z => z.resolve_left fun z => h (congrArg Int.ofNat z)⟩
        rintro z rfl
        have cq : crossQ rs l d p q = (decide (q ≠ p) && (decide (d2 ≤ q) && crossB l d p l2 d2 q)) := by
          unfold crossQ
          rw [ag]
        have nxt : crossQ rs l d p q = false → ∀ (o1 o2 o3 : Option PyData), ∃ o1' o2' o3', (([some (PyData.tuple (rs.map Row.enc)), some (I p), some (PyData.list ((List.range' d (p + 1 - d)).map I)), o1, o2, o3, none], none) : Sta) = ([some (.tuple (rs.map Row.enc)), some (I p), some (.list ((List.range' d (p + 1 - d)).map I)), o1', o2', o3', none], none) ∧ ∀ j q, j < i + 1 → (ags rs)[j]? = some q → crossQ rs l d p q = false := fun z o1 o2 o3 => by
          refine ⟨o1, o2, o3, rfl, fun j q2 hj ej => ?_⟩
          by_cases h : j = i
          · subst h
            rw [eq] at ej
            cases ej
            exact z
          · exact hc j q2 (by omega) ej
        refine ifd (fun h => ?_) (fun h => ?_)
        · refine XSs.cons (XS.cont ?_)
          refine nxt ?_ _ _ _
          rw [cq]
          rcases h with h | h
          · simp [h]
          · have z := (both_nil hdp).mp h
            by_cases h2 : d2 ≤ q
            · have : decide (d ≤ q ∧ d2 ≤ p) = false := decide_eq_false fun y => z ⟨h2, y⟩
              unfold crossB
              rw [this]
              simp
            · simp [h2]
        · have h1 : q ≠ p := fun z => h (.inl z)
          have h2 : d2 ≤ q ∧ d ≤ q ∧ d2 ≤ p := Decidable.byContradiction fun z => h (.inr ((both_nil hdp).mpr z))
          have cq2 : crossQ rs l d p q = (decide (l2 = l) || !nestB d p d2 q) := by
            rw [cq]
            unfold crossB
            simp [h1, h2.1, h2.2.1, h2.2.2]
          walk_at "gt"
          refine XT.imp (k := fun z => z = crossQ rs l d p q) ?_ ?_
          · rw [cq2]
            walk_at "go"
            refine ifd (fun h => ?_) (fun h => ?_)
            · have e : l2 = l := Int.ofNat.inj h
              simp [e]
            · have e : ¬ l2 = l := fun z => h (congrArg Int.ofNat z)
              walk_at "go"
              refine eqK_I ?_
              refine ifb (fun h4 => ?_) (fun h4 => ?_)
              · walk_at "go"
                refine eqK_I ?_
                have h4 : ¬ both d p d2 q = List.range' d2 (q + 1 - d2) := by simpa using h4
                rw [both_far hdp h2.1] at h4
                walk_at "go"
                have e5 : decide (both d p d2 q = List.range' d (p + 1 - d)) = decide (d2 ≤ d ∧ p ≤ q) := decide_eq_decide.mpr (both_own hdp h2.1)
                rw [e5]
                unfold nestB
                simp [e, h4]
              · have h4 : both d p d2 q = List.range' d2 (q + 1 - d2) := by simpa using h4
                rw [both_far hdp h2.1] at h4
                unfold nestB
                simp [e, h4]
          rintro z rfl
          refine ifb (fun h => ?_) (fun h => ?_)
          · walk_at "go"
            have ec : crossed rs l d p = true := by
              unfold crossed
              rw [List.any_eq_true]
              exact ⟨q, List.mem_of_getElem? eq, h⟩
            rw [ec] at hk
            exact hk
          · walk_at "1"
            walk_at "1"
            exact nxt h _ _ _
    · obtain ⟨o1, o2, o3, es, hc⟩ := hP
      cases es
      walk_at "go"
      have ec : crossed rs l d p = false := by
        unfold crossed
        rw [List.any_eq_false]
        intro q hq
        obtain ⟨j, hj⟩ := List.mem_iff_getElem?.mp hq
        have hjl : j < (List.map I (ags rs)).length := by
          rw [List.length_map]
          by_cases h : j < (ags rs).length
          · exact h
          · rw [List.getElem?_eq_none (by omega)] at hj
            cases hj
        rw [hc j q hjl hj]
        decide
      rw [ec] at hk
      exact hk
end
theorem sh_plain {o : Str} {xs : List PyData} (h : PlainOk o xs) : Sh 1 (.tuple (.str o :: xs)) := by
  have go : ∀ {o : Str} {xs : List PyData}, PyData.canLay0 (.str o) = true → (∀ x ∈ xs, Sh 0 x) → Sh 1 (.tuple (.str o :: xs)) := fun h1 h2 => sh_tup (shl_cons (sh_str h1) h2)
  cases h with
  | op o a b ho _ _ =>
    simp only [List.mem_cons, List.mem_nil_iff, or_false] at ho
    rcases ho with rfl | rfl | rfl | rfl | rfl | rfl | rfl <;> exact go (by decide +kernel) (shl_cons (sh_int _) (shl_cons (sh_int _) shl_nil))
  | opn o a b ho _ _ =>
    simp only [List.mem_cons, List.mem_nil_iff, or_false] at ho
    rcases ho with rfl | rfl | rfl | rfl <;> exact go (by decide +kernel) (shl_cons (sh_int _) (shl_cons (sh_int _) shl_nil))
  | sh o a b ho _ _ =>
    simp only [List.mem_cons, List.mem_nil_iff, or_false] at ho
    rcases ho with rfl | rfl <;> exact go (by decide +kernel) (shl_cons (sh_int _) (shl_cons (sh_int _) shl_nil))
  | ask => exact go (by decide +kernel) (shl_cons (sh_int _) (shl_cons (sh_str (by decide +kernel)) (shl_cons (sh_int _) shl_nil)))
  | length => exact go (by decide +kernel) (shl_cons (sh_int _) shl_nil)
  | answer => exact go (by decide +kernel) (shl_cons (sh_int _) shl_nil)
  | set => exact go (by decide +kernel) (shl_cons (sh_int _) (shl_cons (sh_int _) shl_nil))
  | move => exact go (by decide +kernel) (shl_cons (sh_int _) (shl_cons (sh_int _) shl_nil))
  | take => exact go (by decide +kernel) (shl_cons (sh_int _) (shl_cons (sh_int _) shl_nil))
  | keep => exact go (by decide +kernel) (shl_cons (sh_int _) (shl_cons (sh_int _) shl_nil))
  | count => exact go (by decide +kernel) (shl_cons (sh_int _) (shl_cons (sh_int _) shl_nil))
  | _ => exact go (by decide +kernel) (shl_cons (sh_int _) (shl_cons (sh_int _) (shl_cons (sh_int _) shl_nil)))
theorem sh_cond {c : Str} (h : c ∈ conds) : PyData.canLay0 (.str c) = true := by
  simp only [conds, List.mem_cons, List.mem_nil_iff, or_false] at h
  rcases h with rfl | rfl | rfl | rfl | rfl | rfl <;> decide +kernel
theorem sh_row {v : Row} (hv : v.Ok) : Sh 1 v.enc := by
  cases v with
  | plain o xs => exact sh_plain hv
  | begin l => exact sh_tup (shl_cons (sh_str (by decide +kernel)) (shl_cons (sh_int _) shl_nil))
  | again l m d => exact sh_tup (shl_cons (sh_str (by decide +kernel)) (shl_cons (sh_int _) (shl_cons (sh_int _) (shl_cons (sh_int _) shl_nil))))
  | jump d => exact sh_tup (shl_cons (sh_str (by decide +kernel)) (shl_cons (sh_int _) shl_nil))
  | when c a b d => exact sh_tup (shl_cons (sh_str (by decide +kernel)) (shl_cons (sh_str (sh_cond hv.1)) (shl_cons (sh_int _) (shl_cons (sh_int _) (shl_cons (sh_int _) shl_nil)))))
  | whenn c a n d => exact sh_tup (shl_cons (sh_str (by decide +kernel)) (shl_cons (sh_str (sh_cond hv.1)) (shl_cons (sh_int _) (shl_cons (sh_int _) (shl_cons (sh_int _) shl_nil)))))
theorem eqv_begin {v : Row} (hv : v.Ok) (l : Nat) : PyData.eqv v.enc (.tuple [.str "begin", I l]) = v.bg l := by
  have no : ∀ (o : Str) (xs : List PyData), o ≠ "begin" → PyData.eqv (.tuple (.str o :: xs)) (.tuple [.str "begin", I l]) = false := fun o xs h => by
    simp [PyData.eqv, PyData.eqvAll, h]
  cases v with
  | plain o xs => exact no _ _ (plain_no hv).1
  | begin l2 =>
    simp only [Row.enc, Row.bg, PyData.eqv, PyData.eqvAll, Bool.and_true]
    rw [show (("begin" : Str) == ("begin" : Str)) = true from by decide, Bool.true_and]
    by_cases h : l2 = l
    · simp [h]
    · have h3 : ¬ (l2 : Int) = (l : Int) := fun z => h (Int.ofNat.inj z)
      simp [h, h3]
  | again l m d => exact no _ _ (by decide)
  | jump d => exact no _ _ (by decide)
  | when c a b d => exact no _ _ (by decide)
  | whenn c a n d => exact no _ _ (by decide)
def spFlaw : Sc := fun ds k => ∃ (rs : List Row) (p : Nat), ds = [encS rs, I p] ∧ SieveOk rs ∧ p < rs.length ∧ k (.list ((flawAt rs p).map .str))
section
variable {P : Program} {w : World} {K : PySem.W.Frag} {mg : Str → Option Value} {base : Heap}
theorem c_lflaw (M : Md w K mg) (c1 : CLLoop P w K mg base 1 spLoop) (c2 : CLIsCrossed P w K mg base 2 spIsCrossed) : CLFlaw P w K mg base 3 spFlaw := by
  refine goLFlaw M ?_ ?_
  · rintro ds k0 ⟨rs, p, rfl, _⟩
    rfl
  · intro f cdv A outer s H E fm nd ds k0 h
    obtain ⟨rs, p, rfl, hs, hp, hk⟩ := h
    have e0 : encS rs = .tuple (rs.map Row.enc) := rfl
    rw [e0]
    have hl := hs.len
    have hll : (rs.map Row.enc).length = rs.length := List.length_map _
    obtain ⟨v, ev, hv, ev2⟩ := row_at hs hp
    have fl : flawAt rs p = flawR rs p v := by unfold flawAt; rw [ev]
    rw [fl] at hk
    have jmp : ∀ (d : Nat), k0 (.list ((if p < d ∧ d < rs.length then [] else ["far"] : List Str).map .str)) → ((d ≤ p ∨ rs.length ≤ d) → k0 (.list [.str "far"])) ∧ (¬ (d ≤ p ∨ rs.length ≤ d) → k0 (.list [])) := fun d h => by
      constructor
      · intro z
        rw [if_neg (by omega)] at h
        exact h
      · intro z
        rw [if_pos (by omega)] at h
        exact h
    cases v with
    | plain o xs =>
      have hn := plain_no hv
      simp only [Row.enc] at ev2
      walk_at "go"
      refine ifd (fun h => ?_) (fun h => ?_)
      · simp only [List.mem_cons, List.mem_nil_iff, or_false] at h
        rcases h with h | h | h
        · exact absurd h hn.2.2.1
        · exact absurd h hn.2.2.2.1
        · exact absurd h hn.2.2.2.2
      walk_at "go"
      refine ifb (fun h => ?_) (fun h => ?_)
      · walk_at "go"
        exact hk
      · exact absurd (by simpa using h) hn.2.1
    | begin l =>
      simp only [Row.enc] at ev2
      walk_at "go"
      exact hk
    | jump d =>
      obtain ⟨j1, j2⟩ := jmp d hk
      simp only [Row.enc] at ev2
      walk_at "go"
      refine ifd (fun h => ?_) (fun h => ?_)
      · walk_at "go"
        exact j1 (.inl (by omega))
      · walk_at "go"
        rw [hll]
        refine ifd (fun h2 => ?_) (fun h2 => ?_)
        · walk_at "go"
          exact j1 (.inr (by omega))
        · walk_at "go"
          exact j2 (by omega)
    | when c a b d =>
      obtain ⟨j1, j2⟩ := jmp d hk
      simp only [Row.enc] at ev2
      walk_at "go"
      refine ifd (fun h => ?_) (fun h => ?_)
      · walk_at "go"
        exact j1 (.inl (by omega))
      · walk_at "go"
        rw [hll]
        refine ifd (fun h2 => ?_) (fun h2 => ?_)
        · walk_at "go"
          exact j1 (.inr (by omega))
        · walk_at "go"
          exact j2 (by omega)
    | whenn c a n d =>
      obtain ⟨j1, j2⟩ := jmp d hk
      simp only [Row.enc] at ev2
      walk_at "go"
      refine ifd (fun h => ?_) (fun h => ?_)
      · walk_at "go"
        exact j1 (.inl (by omega))
      · walk_at "go"
        rw [hll]
        refine ifd (fun h2 => ?_) (fun h2 => ?_)
        · walk_at "go"
          exact j1 (.inr (by omega))
        · walk_at "go"
          exact j2 (by omega)
    | again l m d =>
      have hk : k0 (.list ((if p < d then ["back"] else if beginIn rs l d p = true then ["begin"] else if crossed rs l d p = true then ["crossed"] else [] : List Str).map .str)) := hk
      simp only [Row.enc] at ev2
      walk_at "go"
      refine ifd (fun h => ?_) (fun h => ?_)
      · walk_at "go"
        rw [if_pos (by omega)] at hk
        exact hk
      have hdp : d ≤ p := by omega
      rw [if_neg (by omega)] at hk
      walk_at "go"
      refine XE.lc (own := [("_law_at", 4)]) fm nd (blkOk_by (by decide +kernel)) ?_ (by walk_at "rr2")
      refine XI.list fm ?_
      walk_at "go"
      refine ⟨rs, p, l, m, d, rfl, hl, ev, hv.2.2.2, ?_⟩
      walk_at "go"
      refine LcK.fa (List.range' d (p + 1 - d)) I (fun x => if (match rs[x]? with | some w => w.bg l | none => false) = true then some (I x) else none) (by rw [List.length_range']; omega) (fun x hx => ?_) ?_
      · have hx := mem_seg.mp hx
        obtain ⟨u, eu, hu, eu2⟩ := row_at hs (show x < rs.length by omega)
        rw [eu]
        walk_at "go"
        refine .inr (.inr ⟨(sh_row hu).ok (by omega), (sh_row (v := .begin l) (show l < 4 from hv.1)).ok (by omega), ?_⟩)
        rw [eqv_begin hu]
        refine ifb (fun h => ?_) (fun h => ?_)
        · walk_at "go"
          rw [if_pos h]
        · show (if u.bg l = true then some (I x) else none) = none
          rw [h]
          rfl
      have key : ∀ L : List Nat, (∀ x ∈ L.filterMap (fun x => if (match rs[x]? with | some w => w.bg l | none => false) = true then some (I x) else none), Sh 0 x) ∧ (L.filterMap (fun x => if (match rs[x]? with | some w => w.bg l | none => false) = true then some (I x) else none)).isEmpty = !(L.any fun q => match rs[q]? with | some w => w.bg l | none => false) := fun L => by
        induction L with
        | nil => exact ⟨fun _ z => (nomatch z), rfl⟩
        | cons a L ih =>
          obtain ⟨i1, i2⟩ := ih
          rw [List.filterMap_cons, List.any_cons]
          cases hb : (match rs[a]? with | some w => w.bg l | none => false) with
          | true =>
            rw [if_pos rfl]
            exact ⟨shl_cons (sh_int _) i1, rfl⟩
          | false =>
            rw [if_neg Bool.false_ne_true, Bool.false_or]
            exact ⟨i1, i2⟩
      obtain ⟨k1, k2⟩ := key (List.range' d (p + 1 - d))
      refine XE.lst (XA.nil ⟨dts_nil, Nat.le_of_ble_eq_true rfl, ?_⟩)
      refine eqK_nil k1 (by omega) ?_
      rw [k2, Bool.not_not]
      refine ifb (fun h => ?_) (fun h => ?_)
      · have hb : beginIn rs l d p = true := h
        rw [if_pos hb] at hk
        walk_at "go"
        exact hk
      have hb : beginIn rs l d p = false := h
      rw [hb, if_neg Bool.false_ne_true] at hk
      walk_at "go"
      refine ⟨rs, p, l, m, d, rfl, hs, ev, hdp, ?_⟩
      walk_at "go"
      refine ifb (fun h => ?_) (fun h => ?_)
      · rw [if_pos h] at hk
        walk_at "go"
        exact hk
      · rw [h, if_neg Bool.false_ne_true] at hk
        walk_at "go"
        exact hk
def spFlaws : Sc := fun ds k => ∃ (rs : List Row), ds = [encS rs] ∧ SieveOk rs ∧ k (flawsD rs)
theorem c_lflaws (M : Md w K mg) (c1 : CLFlaw P w K mg base 3 spFlaw) : CLFlaws P w K mg base 4 spFlaws := by
  refine goLFlaws M ?_ ?_
  · rintro ds k0 ⟨rs, rfl, _⟩
    rfl
  · intro f cdv A outer s H E fm nd ds k0 h
    obtain ⟨rs, rfl, hs, hk⟩ := h
    have e0 : encS rs = .tuple (rs.map Row.enc) := rfl
    rw [e0]
    have hl := hs.len
    have hll : (rs.map Row.enc).length = rs.length := List.length_map _
    have one : ∀ p w, (flawR rs p w).length ≤ 1 := fun p w => by
      cases w <;> (unfold flawR; (repeat' split) <;> simp)
    have one2 : ∀ p, (flawAt rs p).length ≤ 1 := fun p => by
      unfold flawAt
      split
      · exact one _ _
      · simp
    walk_at "go"
    refine XS.for fm [2] (fun i s' => ∃ o1, s' = ([some (.tuple (rs.map Row.enc)), some (.list (((List.range i).flatMap fun p => (flawAt rs p).map fun s => (p, s)).map flawD)), o1, none], none) ∧ ((List.range i).flatMap fun p => (flawAt rs p).map fun s => (p, s)).length ≤ i) (by walk_at "rr2") ?_
    walk_at "go"
    rw [hll]
    refine ⟨⟨none, rfl, Nat.zero_le _⟩, fun i d δ' m' hd hP => ?_, fun δ' m' hP => ?_⟩
    · obtain ⟨hi, rfl⟩ := rngD_get hd
      have hi : i < rs.length := by omega
      obtain ⟨o1, es, hlen⟩ := hP
      cases es
      rw [Int.zero_add]
      refine ⟨fun q e => (by cases e), ?_⟩
      have o2 := one2 i
      have hr : ((flawAt rs i).map fun s => flawD (i, s)).length ≤ 1 := by rw [List.length_map]; exact o2
      walk_at "gn"
      refine XE.lc (own := [("_law_reason", 3)]) fm nd (blkOk_by (by decide +kernel)) ?_ (by walk_at "rr2")
      refine XI.list fm ?_
      walk_at "go"
      refine ⟨rs, i, rfl, hs, hi, ?_⟩
      walk_at "go"
      refine LcK.mp (flawAt rs i) .str (fun s => flawD (i, s)) (by omega) (fun x hx => ?_) ?_
      · walk_at "go"
        rfl
      walk_at "go"
      have ex : (List.range (i + 1)).flatMap (fun p => (flawAt rs p).map fun s => (p, s)) = (List.range i).flatMap (fun p => (flawAt rs p).map fun s => (p, s)) ++ (flawAt rs i).map fun s => (i, s) := by
        rw [List.range_succ, List.flatMap_append]
        simp
      refine ⟨_, by rw [ex, List.map_append, List.map_map (l := flawAt rs i)]; rfl, ?_⟩
      rw [ex, List.length_append, List.length_map]
      omega
    · obtain ⟨o1, es, hlen⟩ := hP
      cases es
      rw [rngD_len]
      walk_at "go"
      exact hk
def spBound : Sc := fun ds k => ∃ (rs : List Row), ds = [encS rs] ∧ SieveOk rs ∧ k (I (boundOf rs))
theorem c_lbound (M : Md w K mg) (c1 : CLLoop P w K mg base 1 spLoop) (c2 : CLAgains P w K mg base 1 spAgains) : CLBound P w K mg base 2 spBound := by
  refine goLBound M ?_ ?_
  · rintro ds k0 ⟨rs, rfl, _⟩
    rfl
  · intro f cdv A outer s H E fm nd ds k0 h
    obtain ⟨rs, rfl, hs, hk⟩ := h
    have e0 : encS rs = .tuple (rs.map Row.enc) := rfl
    rw [e0]
    have hl := hs.len
    have hll : (rs.map Row.enc).length = rs.length := List.length_map _
    walk_at "go"
    refine XS.for fm [2] (fun i s' => ∃ o1 o2 o3, s' = ([some (.tuple (rs.map Row.enc)), some (I ((List.range i).map (often rs)).sum), o1, o2, o3], none)) (by walk_at "rr2") ?_
    walk_at "go"
    rw [hll]
    refine ⟨⟨none, none, none, rfl⟩, fun i d δ' m' hd hP => ?_, fun δ' m' hP => ?_⟩
    · obtain ⟨hi, rfl⟩ := rngD_get hd
      have hi : i < rs.length := by omega
      obtain ⟨o1, o2, o3, es⟩ := hP
      cases es
      rw [Int.zero_add]
      refine ⟨fun q e => (by cases e), ?_⟩
      walk_at "go"
      refine XS.for fm [4] (fun j s' => ∃ o3, s' = ([some (.tuple (rs.map Row.enc)), some (I ((List.range i).map (often rs)).sum), some (I i), some (I (((ags rs).take j).foldl (oftenF rs i) 1)), o3], none)) (by walk_at "rr2") ?_
      refine XI.list fm ?_
      walk_at "go"
      refine ⟨rs, rfl, hs, ?_⟩
      walk_at "go"
      refine ⟨⟨_, rfl⟩, fun j d δ' m' hd hP => ?_, fun δ' m' hP => ?_⟩
      · obtain ⟨o3, es⟩ := hP
        cases es
        rw [List.getElem?_map] at hd
        cases eq : (ags rs)[j]? with
        | none =>
          rw [eq] at hd
          cases hd
        | some q =>
          rw [eq] at hd
          cases hd
          obtain ⟨hq, l2, m2, d2, eq2, ag⟩ := ags_ok (List.mem_of_getElem? eq)
          have eq3 : (rs.map Row.enc)[q]? = some (.tuple [.str "again", I l2, I m2, I d2]) := by rw [List.getElem?_map, eq2]; rfl
          obtain ⟨_, _, hm2, hd2⟩ := hs.rows _ (List.mem_of_getElem? eq2)
          have tk : ((ags rs).take (j + 1)).foldl (oftenF rs i) 1 = oftenF rs i (((ags rs).take j).foldl (oftenF rs i) 1) q := by
            rw [List.take_succ, eq, List.foldl_append]
            rfl
          have of : ∀ acc, oftenF rs i acc q = if d2 ≤ i ∧ i ≤ q then acc * (m2 + 1) else acc := fun acc => by
            unfold oftenF
            rw [ag]
          refine ⟨fun q e => (by cases e), ?_⟩
          walk_at "gn"
          refine XT.inI fm ?_ (by rfl)
          walk_at "go"
          refine ⟨rs, q, l2, m2, d2, rfl, hl, eq2, hd2, ?_⟩
          refine ⟨i, _, rfl, rfl, ?_⟩
          refine ifd (fun h => ?_) (fun h => ?_)
          · have h := mem_seg.mp h
            walk_at "go"
            exact ⟨_, by rw [tk, of, if_pos (by omega)]; rfl⟩
          · rw [mem_seg] at h
            walk_at "go"
            exact ⟨_, by rw [tk, of, if_neg (by omega)]; rfl⟩
      · obtain ⟨o3, es⟩ := hP
        cases es
        rw [List.length_map, List.take_length]
        walk_at "go"
        have ex : ((List.range (i + 1)).map (often rs)).sum = ((List.range i).map (often rs)).sum + often rs i := by
          rw [List.range_succ, List.map_append, List.sum_append]
          simp
        exact ⟨_, _, _, by rw [ex]; rfl⟩
    · obtain ⟨o1, o2, o3, es⟩ := hP
      cases es
      rw [rngD_len]
      walk_at "go"
      exact hk
end
/-! ### d.get(k, x) of a written table, the key there -/
def tKGet (K : PySem.W.Frag) (w : World) (a : Addr) (ty tx : TE) : TE := fun σ H Q => ty σ H fun y H2 => tx σ H2 fun z H3 => ∃ s v, y = .str s ∧ KDct K w a s v ∧ Q v H3
theorem pe_kget {X : Cx} {o e g : Expr} {ty tx : TE} {apos cpos : Pos} {a : Addr} {es : Array DictEntry} {n : Nat} (hl : X.K.lookup a = some ⟨.type "dict", none, .dict es n, #[]⟩) (low : (a == sysModules) = false) (ho : PE X o (tC (.ref a))) (he : PE X e ty) (hg : PE X g tx) (m : M2 X o "get" apos e g cpos) :
    PE X (.Call (.Attribute o "get" apos) [e, g] [] cpos) (tKGet X.K X.w a ty tx) := by
  refine ⟨fun pins s σ H Q I h => ?_⟩
  refine wpAny_Call_method m.base m.few m.line PySem.F.plainAttrs_dict PySem.F.slot_dict_get PySem.F.type_dict_get (thn (ho.run pins s σ H (fun x H1 => x = .ref a ∧ tKGet X.K X.w a ty tx σ H1 Q) I ⟨rfl, h⟩) fun u s1 ⟨x, H1, I1, rx, ex, q1⟩ => ?_)
  subst ex
  obtain rfl : u = Value.ref a := rx
  have ka := I1.kIn _ _ hl
  refine ⟨⟨_, ka, rfl⟩, fun b e => ?_, ?_⟩
  · cases e
    exact ⟨_, ka, rfl⟩
  rw [m.trees]
  refine Calls.callWith_builtin rfl (Calls.evalArgs_plain (Calls.spliced_cons (thn (he.run pins s1 σ H1 _ I1 q1) fun iv s2 ⟨y, H2, I2, ry, q2⟩ =>
    Calls.spliced_cons (thn (hg.run pins s2 σ H2 _ I2 q2) fun fv s3 ⟨z, H3, I3, rz, st, v, ey, ⟨es2, n2, u0, hl2, hkl, hn, ru⟩, q3⟩ => Calls.spliced_nil ?_))))
  subst ey
  obtain ⟨t, rfl⟩ := (show ∃ t, iv = Value.str st t from ry)
  have hm := PySem.W.mapOf_K (prog := X.prog) (w := X.w) I3.kIn hl2 hkl
  refine call_meetsIn PySem.F.slot_dict_get hm.typeIs PySem.F.entry_dict_get (PySem.F.args_dict_get_3 _ _ _) (meets_dict_get_default (PySem.strKind X.prog X.w) a (strKind_is X.prog X.w st t) low fv) ⟨_, hm, ?_⟩
  rw [PySem.W.find_K hl2 hn]
  exact ⟨v, H3, I3.tok _, ru, q3⟩
def fieldsT : List (Str × Str) := [("set", "rn"), ("move", "rr"), ("length", "r"), ("take", "rk"), ("keep", "rk"), ("byte", "rrs"), ("pair", "rrs"), ("write", "rrs"), ("cell", "rtr"), ("fill", "rtr"), ("count", "tr"), ("find", "rtr"), ("value", "rtr"), ("change", "rtr"), ("ask", "rqr"), ("jump", "d"), ("when", "crrd"), ("whenn", "crnd"), ("begin", "l"), ("again", "lmd"), ("answer", "r")]
def mostsT : List (Str × Int) := [("r", 7), ("n", 65535), ("h", 15), ("s", 255), ("k", 15), ("t", 5), ("d", 119), ("l", 3), ("m", 100)]
def opsL : List Str := ["add", "sub", "and", "or", "xor", "left", "right"]
def shifted : List Str := ["left", "right"]
def asked : List Str := ["clock", "ones", "mix"]
def named : List Str := ["addn", "andn", "orn", "xorn", "leftn", "rightn"]
structure Co (w : World) (K : PySem.W.Frag) (mg : Str → Option Value) : Prop where
  OPS : ∃ a, mg "OPS" = some (.ref a) ∧ ∀ H, SqT K H a (opsL.map V.str)
  SHIFTED : ∃ a, mg "SHIFTED" = some (.ref a) ∧ ∀ H, SqT K H a (shifted.map V.str)
  CONDITIONS : ∃ a, mg "CONDITIONS" = some (.ref a) ∧ ∀ H, SqT K H a (conds.map V.str)
  ASKED : ∃ a, mg "ASKED" = some (.ref a) ∧ ∀ H, SqT K H a (asked.map V.str)
  NAMED : ∃ a, mg "NAMED" = some (.ref a) ∧ ∀ H, SqT K H a (named.map V.str)
  MOST : ∃ t, mg "MOST_ROWS" = some (.int 120 t)
  FIELDS : ∃ a es n, mg "FIELDS" = some (.ref a) ∧ K.lookup a = some ⟨.type "dict", none, .dict es n, #[]⟩ ∧ (a == sysModules) = false ∧ ∀ q ∈ fieldsT, KDct K w a q.1 (.str q.2)
  MOSTS : ∃ a, mg "MOSTS" = some (.ref a) ∧ ∀ q ∈ mostsT, KDct K w a q.1 (.int q.2)
section
variable {ι : Type} {K : PySem.W.Frag} {X : ι → Cx} {e g : Expr} {δ : DS} {pos apos p2 : Pos} {P : Program} {w : World} {mg : Str → Option Value} {base : Heap} {N : List Str} {sc : Scope} {n : Nat} {k : PyData → Prop} {x : Str}
theorem XE.kn {xs : List Str} (f : Fm P w K mg base N sc n X) (hg : sc.names.lookup x = some .globalImplicit) (h : ∃ a, mg x = some (.ref a) ∧ ∀ H, SqT K H a (xs.map V.str)) (hk : k (kon xs)) (hdb : (x == ("__debug__" : Str)) = false) : XE K X (.Name x pos) δ k := by
  obtain ⟨a, hm, q⟩ := h
  exact XE.glob f hg hm (show RelV (.ref a) (.ref a) from rfl) (fun wa G => .inr (.inr ⟨xs, a, rfl, rfl, q⟩)) hk hdb
theorem XE.ki {i : Int} (f : Fm P w K mg base N sc n X) (hg : sc.names.lookup x = some .globalImplicit) (h : ∃ t, mg x = some (.int i t)) (hk : k (.int i)) (hdb : (x == ("__debug__" : Str)) = false) : XE K X (.Name x pos) δ k := by
  obtain ⟨t, hm⟩ := h
  exact XE.glob f hg hm (show RelV (.int i) (.int i t) from ⟨t, rfl⟩) (fun wa G => .inl (.int i)) hk hdb
theorem XE.kget {a : Addr} {es : Array DictEntry} {m : Nat} (f : Fm P w K mg base N sc n X) (hg : sc.names.lookup x = some .globalImplicit) (hm : mg x = some (.ref a)) (hl : K.lookup a = some ⟨.type "dict", none, .dict es m, #[]⟩) (low : (a == sysModules) = false)
    (h : XE K X e δ fun d => ∃ s t : Str, d = .str s ∧ KDct K w a s (.str t) ∧ XE K X g δ fun _ => k (.str t)) (hM : ∀ i, M2 (X i) (.Name x p2) "get" apos e g pos) (hdb : (x == ("__debug__" : Str)) = false) :
    XE K X (.Call (.Attribute (.Name x p2) "get" apos) [e, g] [] pos) δ k := fun wa G H σ Q wd en hq =>
  ⟨tKGet K w a (rE X e) (rE X g), fun i => by
    have z := pe_kget (X := X i) (by rw [f.K_ i]; exact hl) low (pe_glob (pos := p2) (f.gl hg i) (by rw [f.mg_ i]; exact hm) (show RelV (.ref a) (.ref a) from rfl) hdb) (rE_ok X e i) (rE_ok X g i) (hM i)
    rw [f.K_ i, f.w_ i] at z
    exact z, h wa G H σ _ wd en fun v d G1 H1 l1 r1 ⟨s, t, ed, kd, hg⟩ => by
      subst ed
      refine hg wa G1 H1 σ _ l1.wd (en.mono (l1.same wd)) fun v2 d2 G2 H2 l2 r2 hk => ?_
      exact ⟨s, _, rp_str r1, kd, hq _ _ G2 H2 (l1.trans l2) (.inl (.str t)) hk⟩⟩
end
def spIsWhole : Sc := fun ds k => ∃ i : Int, ds = [.int i] ∧ k (.bool true)
def spBetween : Sc := fun ds k => ∃ i lo hi : Int, ds = [.int i, .int lo, .int hi] ∧ lo ≤ i ∧ i ≤ hi ∧ k (.bool true)
section
variable {P : Program} {w : World} {K : PySem.W.Frag} {mg : Str → Option Value} {base : Heap}
theorem c_is_whole (M : Md w K mg) : CIsWhole P w K mg base 1 spIsWhole := by
  refine goIsWhole M ?_ ?_
  · rintro ds k0 ⟨i, rfl, _⟩
    rfl
  · intro f cdv A outer s H E fm nd ds k0 h
    obtain ⟨i, rfl, hk⟩ := h
    walk_at "go"
    refine XE.isi fm (by rfl) M.wo.isinstance_ (by rfl) M.wo.int_ PyProof.Rows.boot_int ?_
    walk_at "go"
    refine XE.isi fm (by rfl) M.wo.isinstance_ (by rfl) M.wo.bool_ PyProof.Rows.boot_bool ?_
    walk_at "go"
    exact hk
theorem c_is_between (M : Md w K mg) (c1 : CIsWhole P w K mg base 1 spIsWhole) : CIsBetween P w K mg base 2 spBetween := by
  refine goIsBetween M ?_ ?_
  · rintro ds k0 ⟨i, lo, hi, rfl, _⟩
    rfl
  · intro f cdv A outer s H E fm nd ds k0 h
    obtain ⟨i, lo, hi, rfl, h1, h2, hk⟩ := h
    walk_at "go"
    refine ⟨i, rfl, ?_⟩
    walk_at "go"
    refine ifd (fun _ => ?_) (fun h => absurd h1 h)
    walk_at "go"
    rw [decide_eq_true h2]
    exact hk
end
def FieldsIs (o fs : Str) : Prop := (o ∈ opsL ∧ fs = "rr") ∨ (o ∉ opsL ∧ o ∈ named ∧ fs = if cutS o none (some (-1)) ∈ shifted then "rh" else "rn") ∨ (o ∉ opsL ∧ o ∉ named ∧ (o, fs) ∈ fieldsT)
inductive FOk : Str → PyData → Prop
  | q : FOk "q" (.str "ones")
  | c {x : Str} : x ∈ conds → FOk "c" (.str x)
  | num {f : Str} {hi i : Int} : (f, hi) ∈ mostsT → (if f = "m" then 1 else 0) ≤ i → i ≤ hi → FOk f (.int i)
theorem fo_r {a : Nat} (h : a < 8) : FOk "r" (I a) := .num (hi := 7) (by decide) (by rw [if_neg (by decide)]; omega) (by omega)
theorem fo_n {a : Nat} (h : a < 65536) : FOk "n" (I a) := .num (hi := 65535) (by decide) (by rw [if_neg (by decide)]; omega) (by omega)
theorem fo_h {a : Nat} (h : a < 16) : FOk "h" (I a) := .num (hi := 15) (by decide) (by rw [if_neg (by decide)]; omega) (by omega)
theorem fo_s {a : Nat} (h : a < 256) : FOk "s" (I a) := .num (hi := 255) (by decide) (by rw [if_neg (by decide)]; omega) (by omega)
theorem fo_k {a : Nat} (h : a < 16) : FOk "k" (I a) := .num (hi := 15) (by decide) (by rw [if_neg (by decide)]; omega) (by omega)
theorem fo_t {a : Nat} (h : a < 6) : FOk "t" (I a) := .num (hi := 5) (by decide) (by rw [if_neg (by decide)]; omega) (by omega)
theorem fo_d {a : Nat} (h : a < 120) : FOk "d" (I a) := .num (hi := 119) (by decide) (by rw [if_neg (by decide)]; omega) (by omega)
theorem fo_l {a : Nat} (h : a < 4) : FOk "l" (I a) := .num (hi := 3) (by decide) (by rw [if_neg (by decide)]; omega) (by omega)
theorem fo_m {a : Nat} (h1 : 1 ≤ a) (h : a ≤ 100) : FOk "m" (I a) := .num (hi := 100) (by decide) (by rw [if_pos rfl]; omega) (by omega)
def FP (d : PyData) : Prop := ∃ f x, d = .tuple [.str f, x] ∧ FOk f x
theorem fp {f : Str} {x : PyData} (h : FOk f x) : FP (.tuple [.str f, x]) := ⟨f, x, rfl, h⟩
theorem fp_nil : ∀ d ∈ ([] : List PyData), FP d := fun _ z => nomatch z
theorem fp_cons {d : PyData} {ds : List PyData} (h : FP d) (t : ∀ d ∈ ds, FP d) : ∀ e ∈ d :: ds, FP e := fun e m => by
  rcases List.mem_cons.mp m with z | m
  · rw [z]
    exact h
  · exact t e m
def RowF (v : Row) : Prop := ∃ (o : Str) (ys : List PyData) (fs : Str), v.enc = .tuple (.str o :: ys) ∧ FieldsIs o fs ∧ fs ≠ "" ∧ fs.cps.size = ys.length ∧ ys.length ≤ 10 ∧ ∀ d ∈ zqD fs ys, FP d
theorem row_fields {v : Row} (hv : v.Ok) : RowF v := by
  cases v with
  | begin l => exact ⟨"begin", _, "l", rfl, .inr (.inr ⟨by decide, by decide, by decide⟩), by decide, rfl, by simp, fp_cons (fp (fo_l hv)) fp_nil⟩
  | again l m d => exact ⟨"again", _, "lmd", rfl, .inr (.inr ⟨by decide, by decide, by decide⟩), by decide, rfl, by simp, fp_cons (fp (fo_l hv.1)) (fp_cons (fp (fo_m hv.2.1 hv.2.2.1)) (fp_cons (fp (fo_d hv.2.2.2)) fp_nil))⟩
  | jump d => exact ⟨"jump", _, "d", rfl, .inr (.inr ⟨by decide, by decide, by decide⟩), by decide, rfl, by simp, fp_cons (fp (fo_d hv)) fp_nil⟩
  | when c a b d => exact ⟨"when", _, "crrd", rfl, .inr (.inr ⟨by decide, by decide, by decide⟩), by decide, rfl, by simp, fp_cons (fp (.c hv.1)) (fp_cons (fp (fo_r hv.2.1)) (fp_cons (fp (fo_r hv.2.2.1)) (fp_cons (fp (fo_d hv.2.2.2)) fp_nil)))⟩
  | whenn c a b d => exact ⟨"whenn", _, "crnd", rfl, .inr (.inr ⟨by decide, by decide, by decide⟩), by decide, rfl, by simp, fp_cons (fp (.c hv.1)) (fp_cons (fp (fo_r hv.2.1)) (fp_cons (fp (fo_n hv.2.2.1)) (fp_cons (fp (fo_d hv.2.2.2)) fp_nil)))⟩
  | plain o xs =>
    have hv : PlainOk o xs := hv
    cases hv with
    | op o a b ho h1 h2 => exact ⟨o, _, "rr", rfl, .inl ⟨ho, rfl⟩, by decide, rfl, by simp, fp_cons (fp (fo_r h1)) (fp_cons (fp (fo_r h2)) fp_nil)⟩
    | opn o a b ho h1 h2 =>
      simp only [List.mem_cons, List.mem_nil_iff, or_false] at ho
      rcases ho with rfl | rfl | rfl | rfl <;> exact ⟨_, _, "rn", rfl, .inr (.inl ⟨by decide, by decide, by decide⟩), by decide, rfl, by simp, fp_cons (fp (fo_r h1)) (fp_cons (fp (fo_n h2)) fp_nil)⟩
    | sh o a b ho h1 h2 =>
      simp only [List.mem_cons, List.mem_nil_iff, or_false] at ho
      rcases ho with rfl | rfl <;> exact ⟨_, _, "rh", rfl, .inr (.inl ⟨by decide, by decide, by decide⟩), by decide, rfl, by simp, fp_cons (fp (fo_r h1)) (fp_cons (fp (fo_h h2)) fp_nil)⟩
    | set a n h1 h2 => exact ⟨"set", _, "rn", rfl, .inr (.inr ⟨by decide, by decide, by decide⟩), by decide, rfl, by simp, fp_cons (fp (fo_r h1)) (fp_cons (fp (fo_n h2)) fp_nil)⟩
    | move a n h1 h2 => exact ⟨"move", _, "rr", rfl, .inr (.inr ⟨by decide, by decide, by decide⟩), by decide, rfl, by simp, fp_cons (fp (fo_r h1)) (fp_cons (fp (fo_r h2)) fp_nil)⟩
    | length a h1 => exact ⟨"length", _, "r", rfl, .inr (.inr ⟨by decide, by decide, by decide⟩), by decide, rfl, by simp, fp_cons (fp (fo_r h1)) fp_nil⟩
    | answer a h1 => exact ⟨"answer", _, "r", rfl, .inr (.inr ⟨by decide, by decide, by decide⟩), by decide, rfl, by simp, fp_cons (fp (fo_r h1)) fp_nil⟩
    | take a n h1 h2 => exact ⟨"take", _, "rk", rfl, .inr (.inr ⟨by decide, by decide, by decide⟩), by decide, rfl, by simp, fp_cons (fp (fo_r h1)) (fp_cons (fp (fo_k h2)) fp_nil)⟩
    | keep a n h1 h2 => exact ⟨"keep", _, "rk", rfl, .inr (.inr ⟨by decide, by decide, by decide⟩), by decide, rfl, by simp, fp_cons (fp (fo_r h1)) (fp_cons (fp (fo_k h2)) fp_nil)⟩
    | byte a b s h1 h2 h3 => exact ⟨"byte", _, "rrs", rfl, .inr (.inr ⟨by decide, by decide, by decide⟩), by decide, rfl, by simp, fp_cons (fp (fo_r h1)) (fp_cons (fp (fo_r h2)) (fp_cons (fp (fo_s h3)) fp_nil))⟩
    | pair a b s h1 h2 h3 => exact ⟨"pair", _, "rrs", rfl, .inr (.inr ⟨by decide, by decide, by decide⟩), by decide, rfl, by simp, fp_cons (fp (fo_r h1)) (fp_cons (fp (fo_r h2)) (fp_cons (fp (fo_s h3)) fp_nil))⟩
    | write a b s h1 h2 h3 => exact ⟨"write", _, "rrs", rfl, .inr (.inr ⟨by decide, by decide, by decide⟩), by decide, rfl, by simp, fp_cons (fp (fo_r h1)) (fp_cons (fp (fo_r h2)) (fp_cons (fp (fo_s h3)) fp_nil))⟩
    | cell a t b h1 h2 h3 => exact ⟨"cell", _, "rtr", rfl, .inr (.inr ⟨by decide, by decide, by decide⟩), by decide, rfl, by simp, fp_cons (fp (fo_r h1)) (fp_cons (fp (fo_t h2)) (fp_cons (fp (fo_r h3)) fp_nil))⟩
    | fill a t b h1 h2 h3 => exact ⟨"fill", _, "rtr", rfl, .inr (.inr ⟨by decide, by decide, by decide⟩), by decide, rfl, by simp, fp_cons (fp (fo_r h1)) (fp_cons (fp (fo_t h2)) (fp_cons (fp (fo_r h3)) fp_nil))⟩
    | find a t b h1 h2 h3 => exact ⟨"find", _, "rtr", rfl, .inr (.inr ⟨by decide, by decide, by decide⟩), by decide, rfl, by simp, fp_cons (fp (fo_r h1)) (fp_cons (fp (fo_t h2)) (fp_cons (fp (fo_r h3)) fp_nil))⟩
    | value a t b h1 h2 h3 => exact ⟨"value", _, "rtr", rfl, .inr (.inr ⟨by decide, by decide, by decide⟩), by decide, rfl, by simp, fp_cons (fp (fo_r h1)) (fp_cons (fp (fo_t h2)) (fp_cons (fp (fo_r h3)) fp_nil))⟩
    | change a t b h1 h2 h3 => exact ⟨"change", _, "rtr", rfl, .inr (.inr ⟨by decide, by decide, by decide⟩), by decide, rfl, by simp, fp_cons (fp (fo_r h1)) (fp_cons (fp (fo_t h2)) (fp_cons (fp (fo_r h3)) fp_nil))⟩
    | count t b h2 h3 => exact ⟨"count", _, "tr", rfl, .inr (.inr ⟨by decide, by decide, by decide⟩), by decide, rfl, by simp, fp_cons (fp (fo_t h2)) (fp_cons (fp (fo_r h3)) fp_nil)⟩
    | ask a b h1 h3 => exact ⟨"ask", _, "rqr", rfl, .inr (.inr ⟨by decide, by decide, by decide⟩), by decide, rfl, by simp, fp_cons (fp (fo_r h1)) (fp_cons (fp .q) (fp_cons (fp (fo_r h3)) fp_nil))⟩
def spFieldsBy : Sc := fun ds k => ∃ o fs : Str, ds = [.str o] ∧ FieldsIs o fs ∧ k (.str fs)
def spIsField : Sc := fun ds k => ∃ (f : Str) (d : PyData), ds = [.str f, d] ∧ FOk f d ∧ k (.bool true)
def spIsRowBy : Sc := fun ds k => ∃ v : Row, ds = [v.enc] ∧ v.Ok ∧ k (.bool true)
def spWrong : Sc := fun ds k => ∃ rs, ds = [encS rs] ∧ SieveOk rs ∧ k (.list [])
def spCheck : Sc := fun ds k => ∃ rs, ds = [encS rs] ∧ SieveOk rs ∧ k .none
section
variable {P : Program} {w : World} {K : PySem.W.Frag} {mg : Str → Option Value} {base : Heap}
theorem c_fields_by (M : Md w K mg) (C : Co w K mg) : CFieldsBy P w K mg base 1 spFieldsBy := by
  refine goFieldsBy M ?_ ?_
  · rintro ds k0 ⟨o, fs, rfl, _⟩
    rfl
  · intro f cdv A outer s H E fm nd ds k0 h
    obtain ⟨o, fs, rfl, h1, hk⟩ := h
    walk_at "go"
    refine ifd (fun h => ?_) (fun h => ?_)
    · have e : fs = "rr" := by
        rcases h1 with ⟨_, e⟩ | ⟨z, _⟩ | ⟨z, _⟩
        · exact e
        · exact absurd h z
        · exact absurd h z
      rw [e] at hk
      walk_at "go"
      exact hk
    walk_at "go"
    refine ifd (fun h2 => ?_) (fun h2 => ?_)
    · have e : fs = if cutS o none (some (-1)) ∈ shifted then "rh" else "rn" := by
        rcases h1 with ⟨z, _⟩ | ⟨_, _, e⟩ | ⟨_, z, _⟩
        · exact absurd z h
        · exact e
        · exact absurd h2 z
      have ol : o.length ≤ 10 := by
        simp only [named, List.mem_cons, List.mem_nil_iff, or_false] at h2
        rcases h2 with rfl | rfl | rfl | rfl | rfl | rfl <;> decide
      walk_at "go"
      refine ifd (fun h3 => ?_) (fun h3 => ?_)
      · rw [if_pos h3] at e
        rw [e] at hk
        walk_at "go"
        exact hk
      · rw [if_neg h3] at e
        rw [e] at hk
        walk_at "go"
        exact hk
    · have e : (o, fs) ∈ fieldsT := by
        rcases h1 with ⟨z, _⟩ | ⟨_, z, _⟩ | ⟨_, _, e⟩
        · exact absurd z h
        · exact absurd z h2
        · exact e
      obtain ⟨a, es, n, c1, c2, c3, c4⟩ := C.FIELDS
      walk_at "go"
      refine XE.kget fm (by rfl) c1 c2 c3 ?_ (fun _ => ⟨rfl, rfl, rfl, rfl⟩) (by rfl)
      walk_at "go"
      refine ⟨_, fs, rfl, c4 _ e, ?_⟩
      walk_at "go"
      exact hk
theorem c_is_field (M : Md w K mg) (C : Co w K mg) (c1 : CIsBetween P w K mg base 2 spBetween) : CIsField P w K mg base 3 spIsField := by
  refine goIsField M ?_ ?_
  · rintro ds k0 ⟨o, fs, rfl, _⟩
    rfl
  · intro f cdv A outer s H E fm nd ds k0 h
    obtain ⟨fl, d, rfl, h1, hk⟩ := h
    cases h1 with
    | q =>
      walk_at "go"
      refine XE.isi fm (by rfl) M.wo.isinstance_ (by rfl) M.wo.str_ PyProof.Rows.boot_str ?_
      walk_at "go"
      exact hk
    | @c x hx =>
      walk_at "go"
      refine XE.isi fm (by rfl) M.wo.isinstance_ (by rfl) M.wo.str_ PyProof.Rows.boot_str ?_
      walk_at "go"
      rw [decide_eq_true hx]
      exact hk
    | @num _ hi i hm h1 h2 =>
      obtain ⟨a, ca, cm⟩ := C.MOSTS
      have hq : fl ∉ (["q", "c"] : List Str) := by
        simp only [mostsT, List.mem_cons, List.mem_nil_iff, or_false, Prod.mk.injEq] at hm
        rcases hm with ⟨rfl, _⟩ | ⟨rfl, _⟩ | ⟨rfl, _⟩ | ⟨rfl, _⟩ | ⟨rfl, _⟩ | ⟨rfl, _⟩ | ⟨rfl, _⟩ | ⟨rfl, _⟩ | ⟨rfl, _⟩ <;> decide
      walk_at "go"
      refine ifd (fun h => absurd h hq) (fun _ => ?_)
      walk_at "gi"
      refine XE.imp (k := fun d => d = .int (if fl = "m" then 1 else 0)) ?_ ?_
      · walk_at "go"
        refine ifd (fun h => ?_) (fun h => ?_)
        · walk_at "go"
          rw [if_pos h]
        · walk_at "go"
          rw [if_neg h]
      rintro d rfl
      refine XA.cons (XE.tabIx fm (by rfl) ca ?_ (by rfl) (by walk_at "rr2")) (by walk_at "rr")
      walk_at "go"
      refine ⟨_, hi, rfl, cm _ hm, ?_⟩
      walk_at "go"
      exact ⟨_, _, _, rfl, h1, h2, hk⟩
theorem c_is_row_by (M : Md w K mg) (c1 : CFieldsBy P w K mg base 1 spFieldsBy) (c2 : CIsField P w K mg base 3 spIsField) : CIsRowBy P w K mg base 4 spIsRowBy := by
  refine goIsRowBy M ?_ ?_
  · rintro ds k0 ⟨v, rfl, _⟩
    rfl
  · intro f cdv A outer s H E fm nd ds k0 h
    obtain ⟨v, rfl, hv, hk⟩ := h
    have sv := sh_row hv
    obtain ⟨o, ys, fs, ev, hf, hne, hlen, hy, hp⟩ := row_fields hv
    rw [ev] at sv ⊢
    have hlen : fs.length = ys.length := hlen
    walk_at "gt"
    refine XT.imp (k := fun z => z = false) ?_ ?_
    · walk_at "go"
      refine XE.isi fm (by rfl) M.wo.isinstance_ (by rfl) M.wo.tuple_ PyProof.Rows.boot_tuple ?_
      walk_at "go"
      refine .inr (.inr ⟨sv.ok (by omega), by decide, ?_⟩)
      rw [eqv_nilT]
      walk_at "go"
      refine XE.isi fm (by rfl) M.wo.isinstance_ (by rfl) M.wo.str_ PyProof.Rows.boot_str ?_
      walk_at "go"
      rfl
    rintro z rfl
    walk_at "go"
    refine ⟨o, fs, rfl, hf, ?_⟩
    walk_at "gt"
    refine XT.imp (k := fun z => z = false) ?_ ?_
    · walk_at "go"
      refine ifd (fun h => absurd h hne) (fun _ => ?_)
      walk_at "go"
      have e : ((PyData.str o :: ys).length : Int) = (fs.length : Int) + 1 := by
        rw [hlen]
        simp
      show (!(decide _)) = false
      rw [decide_eq_true e]
      rfl
    rintro z rfl
    walk_at "go"
    refine XE.lc (own := [("field", 2), ("each", 3)]) fm nd (blkOk_by (by decide +kernel)) ?_ (by walk_at "rr2")
    refine XI.zq fm (by rfl) M.wo.zip_ ?_ (by walk_at "rr") (by walk_at "rr") (by walk_at "rr")
    walk_at "go"
    rw [show cutD (PyData.str o :: ys) (some (1 : Int)) none = ys from cut_from (ds := PyData.str o :: ys) (m := 1) (by simp)]
    refine ⟨by assumption, ?_⟩
    have zl : (zqD fs ys).length ≤ 10 := by
      unfold zqD
      rw [List.length_map, List.length_zip]
      omega
    refine LcK.fm (fun _ => some (.bool true)) (by omega) (fun d hd => ?_) ?_
    · obtain ⟨fl, x, rfl, hfo⟩ := hp d hd
      have dx : Dt x := by cases hfo <;> exact True.intro
      walk_at "go"
      refine ⟨fl, x, rfl, hfo, ?_⟩
      walk_at "go"
      rfl
    have eb : (zqD fs ys).filterMap (fun _ => some (PyData.bool true)) = (List.replicate (zqD fs ys).length true).map .bool := by
      generalize zqD fs ys = l
      induction l with
      | nil => rfl
      | cons a l ih => rw [List.filterMap_cons, List.length_cons, List.replicate_succ, List.map_cons, ih]
    rw [eb]
    refine ⟨_, rfl, ?_⟩
    rw [show (List.replicate (zqD fs ys).length true).all id = true by simp]
    exact hk
theorem c_wrong (M : Md w K mg) (C : Co w K mg) (c1 : CIsRowBy P w K mg base 4 spIsRowBy) : CWrongInSieve P w K mg base 5 spWrong := by
  refine goWrongInSieve M ?_ ?_
  · rintro ds k0 ⟨rs, rfl, _⟩
    rfl
  · intro f cdv A outer s H E fm nd ds k0 h
    obtain ⟨rs, rfl, hs, hk⟩ := h
    have e0 : encS rs = .tuple (rs.map Row.enc) := rfl
    rw [e0]
    have hl := hs.len
    have hp := hs.pos
    have hll : (rs.map Row.enc).length = rs.length := List.length_map _
    walk_at "gt"
    refine XT.imp (k := fun z => z = false) ?_ ?_
    · walk_at "go"
      refine XE.isi fm (by rfl) M.wo.isinstance_ (by rfl) M.wo.tuple_ PyProof.Rows.boot_tuple ?_
      walk_at "go"
      rw [hll]
      refine ifd (fun _ => ?_) (fun h => absurd (show (1 : Int) ≤ rs.length by omega) h)
      walk_at "go"
      rw [decide_eq_true (show (rs.length : Int) ≤ 120 by omega)]
      rfl
    rintro z rfl
    walk_at "go"
    refine XE.lc (own := [("index", 1), ("each", 2)]) fm nd (blkOk_by (by decide +kernel)) ?_ (by walk_at "rr2")
    refine XI.en fm (by rfl) M.wo.enumerate_ ?_ (by walk_at "rr")
    walk_at "go"
    refine LcK.fm (fun _ => none) (by rw [enD_len]; omega) (fun d hd => ?_) ?_
    · obtain ⟨i, hi⟩ := List.mem_iff_getElem?.mp hd
      obtain ⟨x, hx, rfl⟩ := enD_get hi
      rw [List.getElem?_map] at hx
      cases ev : rs[i]? with
      | none =>
        rw [ev] at hx
        cases hx
      | some v =>
        rw [ev] at hx
        cases hx
        walk_at "go"
        exact ⟨v, rfl, hs.rows v (List.mem_of_getElem? ev), ⟨_, rfl, rfl⟩⟩
    · rw [show (enD (rs.map Row.enc)).filterMap (fun _ => (none : Option PyData)) = [] by simp]
      walk_at "go"
      exact hk
theorem c_check (M : Md w K mg) (c1 : CWrongInSieve P w K mg base 5 spWrong) : CCheckSieve P w K mg base 6 spCheck := by
  refine goCheckSieve M ?_ ?_
  · rintro ds k0 ⟨rs, rfl, _⟩
    rfl
  · intro f cdv A outer s H E fm nd ds k0 h
    obtain ⟨rs, rfl, hs, hk⟩ := h
    walk_at "go"
    refine ⟨rs, rfl, hs, ?_⟩
    walk_at "go"
    exact hk
end
section
variable {ι : Type} {K : PySem.W.Frag} {X : ι → Cx} {e : Expr} {δ : DS} {pos : Pos} {E : DEnds}
theorem XS.ex {m : Option (Nat × List PyData)} (h : XE K X e δ fun _ => E.nx (δ, m)) (hs : ∀ i, swapsWith e none pos.line (X i).env = pure false) : XS K X (.Expr e pos) E (δ, m) := XS.expr h hs
end
def loopD (rs : List Row) (p : Nat) : PyData := match agAt rs p with
  | some (l, m, d) => .tuple [I d, I p, I l, I m]
  | none => .none
theorem enD_rng (xs : List PyData) : enD xs = (List.range xs.length).map fun i => .tuple [I i, xs.getD i .none] := by
  apply List.ext_getElem?
  intro i
  unfold enD
  rw [List.getElem?_map, List.getElem?_map, List.getElem?_zipIdx]
  by_cases h : i < xs.length
  · rw [List.getElem?_range h, List.getElem?_eq_getElem h]
    simp [List.getD_eq_getElem?_getD, List.getElem?_eq_getElem h]
  · rw [List.getElem?_eq_none (by omega), List.getElem?_eq_none (by simpa using h)]
    rfl
def spLoopsBy : Sc := fun ds k => ∃ rs, ds = [encS rs] ∧ SieveOk rs ∧ k (.list ((ags rs).map (loopD rs)))
def spDoCross : Sc := fun ds k => ∃ d p l m d2 p2 l2 m2 : Nat, ds = [.tuple [I d, I p, I l, I m], .tuple [I d2, I p2, I l2, I m2]] ∧ k (.bool (crossB l d p l2 d2 p2))
def spAim : Sc := fun ds k => ∃ (xs : List PyData) (d : Nat), ds = [.tuple xs] ∧ atI xs (-1) = some (I d) ∧ k (I d)
section
variable {P : Program} {w : World} {K : PySem.W.Frag} {mg : Str → Option Value} {base : Heap}
theorem c_loops_by (M : Md w K mg) : CLoopsBy P w K mg base 1 spLoopsBy := by
  refine goLoopsBy M ?_ ?_
  · rintro ds k0 ⟨rs, rfl, _⟩
    rfl
  · intro f cdv A outer s H E fm nd ds k0 h
    obtain ⟨rs, rfl, hs, hk⟩ := h
    have e0 : encS rs = .tuple (rs.map Row.enc) := rfl
    rw [e0]
    have hl := hs.len
    have hll : (rs.map Row.enc).length = rs.length := List.length_map _
    walk_at "go"
    refine XE.lc (own := [("place", 1), ("row", 2)]) fm nd (blkOk_by (by decide +kernel)) ?_ (by walk_at "rr2")
    refine XI.en fm (by rfl) M.wo.enumerate_ ?_ (by walk_at "rr")
    walk_at "go"
    rw [enD_rng, hll]
    refine LcK.fa (List.range rs.length) _ (fun j => if (agAt rs j).isSome = true then some (loopD rs j) else none) (by rw [List.length_range]; omega) (fun j hj => ?_) ?_
    · have hj := List.mem_range.mp hj
      obtain ⟨v, ev, hv, ev2⟩ := row_at hs hj
      obtain ⟨o, ys, eo, ho⟩ := row_name hv
      have ag : agAt rs j = v.ag := by unfold agAt; rw [ev]; rfl
      have eg : (rs.map Row.enc).getD j .none = v.enc := by rw [List.getD_eq_getElem?_getD, ev2]; rfl
      rw [eg]
      by_cases hag : v.ag.isSome = true
      · cases v with
        | again l m d =>
          simp only [Row.enc]
          walk_at "go"
          rw [if_pos (by rw [ag]; exact hag)]
          unfold loopD
          rw [ag]
          rfl
        | _ => cases hag
      · rw [eo]
        walk_at "go"
        refine ifd (fun h => absurd (ho.mp h) hag) (fun _ => ?_)
        rw [if_neg (by rw [ag]; exact hag)]
    · have e : (List.range rs.length).filterMap (fun j => if (agAt rs j).isSome = true then some (loopD rs j) else none) = (ags rs).map (loopD rs) := by
        unfold ags
        generalize List.range rs.length = l
        induction l with
        | nil => rfl
        | cons a l ih =>
          rw [List.filterMap_cons, List.filter_cons]
          by_cases h : (agAt rs a).isSome = true
          · rw [if_pos h, if_pos h, ih]
            rfl
          · rw [if_neg h, if_neg h, ih]
      rw [e]
      walk_at "go"
      exact hk
theorem c_do_cross (M : Md w K mg) : CDoCross P w K mg base 1 spDoCross := by
  refine goDoCross M ?_ ?_
  · rintro ds k0 ⟨d, p, l, m, d2, p2, l2, m2, rfl, _⟩
    rfl
  · intro f cdv A outer s H E fm nd ds k0 h
    obtain ⟨d, p, l, m, d2, p2, l2, m2, rfl, hk⟩ := h
    walk_at "gt"
    refine XT.imp (k := fun z => z = decide (p < d2 ∨ p2 < d)) ?_ ?_
    · walk_at "go"
      refine ifd (fun h => ?_) (fun h => ?_)
      · exact (decide_eq_true (.inl (by omega))).symm
      · walk_at "go"
        exact decide_eq_decide.mpr ⟨fun z => .inr (by omega), fun z => by omega⟩
    rintro z rfl
    refine ifd (fun h => ?_) (fun h => ?_)
    · walk_at "go"
      rw [show crossB l d p l2 d2 p2 = false by
        unfold crossB
        rw [decide_eq_false (show ¬ (d ≤ p2 ∧ d2 ≤ p) by omega)]
        rfl] at hk
      exact hk
    have cb : crossB l d p l2 d2 p2 = (decide (l2 = l) || !nestB d p d2 p2) := by
      unfold crossB
      rw [decide_eq_true (show d ≤ p2 ∧ d2 ≤ p by omega), Bool.true_and]
    rw [cb] at hk
    walk_at "1"
    walk_at "1"
    walk_at "1"
    refine XE.imp (k := fun y => y = .bool (nestB d p d2 p2)) ?_ ?_
    · have ny : (d ≤ d2 ∧ p2 ≤ p) ∨ (d2 ≤ d ∧ p ≤ p2) → PyData.bool true = .bool (nestB d p d2 p2) := fun z => by
        unfold nestB
        rcases z with z | z <;> simp [z]
      have nn : ¬ (d ≤ d2 ∧ p2 ≤ p) → ¬ (d2 ≤ d ∧ p ≤ p2) → PyData.bool false = .bool (nestB d p d2 p2) := fun z1 z2 => by
        unfold nestB
        simp [z1, z2]
      walk_at "go"
      refine ifd (fun h1 => ?_) (fun h1 => ?_)
      · walk_at "go"
        refine ifd (fun h2 => ?_) (fun h2 => ?_)
        · exact ny (.inl ⟨by omega, by omega⟩)
        walk_at "go"
        refine ifd (fun h3 => ?_) (fun h3 => ?_)
        · walk_at "go"
          by_cases h4 : p ≤ p2
          · rw [decide_eq_true (show (p : Int) ≤ p2 by omega)]
            exact ny (.inr ⟨by omega, h4⟩)
          · rw [decide_eq_false (show ¬ (p : Int) ≤ p2 by omega)]
            exact nn (by omega) (by omega)
        · exact nn (by omega) (by omega)
      · walk_at "go"
        refine ifd (fun h3 => ?_) (fun h3 => ?_)
        · walk_at "go"
          by_cases h4 : p ≤ p2
          · rw [decide_eq_true (show (p : Int) ≤ p2 by omega)]
            exact ny (.inr ⟨by omega, h4⟩)
          · rw [decide_eq_false (show ¬ (p : Int) ≤ p2 by omega)]
            exact nn (by omega) (by omega)
        · exact nn (by omega) (by omega)
    rintro y rfl
    walk_at "go"
    refine ifb (fun h1 => ?_) (fun h1 => ?_)
    · rw [h1, Bool.or_true] at hk
      exact hk
    · rw [h1, Bool.or_false] at hk
      walk_at "go"
      rw [show decide ((l : Int) = (l2 : Int)) = decide (l2 = l) from decide_eq_decide.mpr ⟨fun z => (Int.ofNat.inj z).symm, fun z => by rw [z]⟩]
      exact hk
theorem c_aim (M : Md w K mg) : CAimOf P w K mg base 1 spAim := by
  refine goAimOf M ?_ ?_
  · rintro ds k0 ⟨xs, d, rfl, _⟩
    rfl
  · intro f cdv A outer s H E fm nd ds k0 h
    obtain ⟨xs, d, rfl, e, hk⟩ := h
    walk_at "go"
    exact .inl ⟨_, _, _, .inl rfl, rfl, e, hk⟩
end
def spBack : Sc := fun ds k => ∃ (rs : List Row) (p l m d : Nat), ds = [encS rs, I p] ∧ SieveOk rs ∧ rs[p]? = some (.again l m d) ∧ k (.list ((flawAt rs p).map .str))
def spFlawOf : Sc := fun ds k => ∃ (rs : List Row) (p : Nat), ds = [encS rs, I p] ∧ SieveOk rs ∧ p < rs.length ∧ k (.list ((flawAt rs p).map .str))
theorem begin_any {rs : List Row} (hs : ∀ r ∈ rs, r.Ok) (l : Nat) : ∀ d n : Nat, d + n ≤ rs.length → ((((rs.map Row.enc).drop d).take n).any fun z => PyData.eqv z (.tuple [.str "begin", I l])) = (List.range' d n).any (fun q => (match rs[q]? with | some w => w.bg l | none => false))
  | d, 0, _ => by simp
  | d, n + 1, h => by
    have hd : d < rs.length := by omega
    have hv := hs _ (List.getElem_mem hd)
    have e : (rs.map Row.enc).drop d = rs[d].enc :: (rs.map Row.enc).drop (d + 1) := by
      rw [List.drop_eq_getElem_cons (by rw [List.length_map]; exact hd)]
      simp
    rw [e, List.take_succ_cons, List.any_cons, List.range'_succ, List.any_cons, begin_any hs l (d + 1) n (by omega), eqv_begin hv, List.getElem?_eq_getElem hd]
section
variable {P : Program} {w : World} {K : PySem.W.Frag} {mg : Str → Option Value} {base : Heap}
theorem c_back_flaw (M : Md w K mg) (c1 : CLoopsBy P w K mg base 1 spLoopsBy) (c2 : CDoCross P w K mg base 1 spDoCross) : CBackFlaw P w K mg base 2 spBack := by
  refine goBackFlaw M ?_ ?_
  · rintro ds k0 ⟨rs, p, l, m, d, rfl, _⟩
    rfl
  · intro f cdv A outer s H E fm nd ds k0 h
    obtain ⟨rs, p, l, m, d, rfl, hs, ev, hk⟩ := h
    have e0 : encS rs = .tuple (rs.map Row.enc) := rfl
    rw [e0]
    have hl := hs.len
    have hll : (rs.map Row.enc).length = rs.length := List.length_map _
    have ev2 : (rs.map Row.enc)[p]? = some (.tuple [.str "again", I l, I m, I d]) := by rw [List.getElem?_map, ev]; rfl
    have hv := hs.rows _ (List.mem_of_getElem? ev)
    have ag : agAt rs p = some (l, m, d) := by unfold agAt; rw [ev]; rfl
    have hp : p < rs.length := by
      by_cases h : p < rs.length
      · exact h
      · rw [List.getElem?_eq_none (by omega)] at ev
        cases ev
    have fl : flawAt rs p = (if p < d then ["back"] else if beginIn rs l d p = true then ["begin"] else if crossed rs l d p = true then ["crossed"] else [] : List Str) := by
      unfold flawAt
      rw [ev]
      rfl
    rw [fl] at hk
    walk_at "go"
    refine ifd (fun h => ?_) (fun h => ?_)
    · rw [if_pos (by omega)] at hk
      walk_at "go"
      exact hk
    have hdp : d ≤ p := by omega
    rw [if_neg (by omega)] at hk
    walk_at "gn"
    refine XT.isin fm ?_ (by rfl)
    walk_at "go"
    rw [show (d : Int) = ((d : Nat) : Int) from rfl, show (p : Int) + 1 = ((p + 1 : Nat) : Int) by omega, cut_mid (by rw [hll]; omega) (by rw [hll]; omega)]
    refine .inr (.inr ⟨_, rfl, (sh_row (v := .begin l) (show l < 4 from hv.1)).ok (by omega), (sh_tup (n := 1) fun x hx => ?_).ok (by omega), ?_⟩)
    · have hx := List.mem_of_mem_drop (List.mem_of_mem_take hx)
      obtain ⟨r, hr, rfl⟩ := List.mem_map.mp hx
      exact sh_row (hs.rows r hr)
    rw [begin_any hs.rows l d (p + 1 - d) (by omega)]
    refine ifb (fun h => ?_) (fun h => ?_)
    · have hb : beginIn rs l d p = true := h
      rw [if_pos hb] at hk
      walk_at "go"
      exact hk
    have hb : beginIn rs l d p = false := h
    rw [hb, if_neg Bool.false_ne_true] at hk
    walk_at "go"
    refine ⟨rs, rfl, hs, ?_⟩
    have al := ags_len rs
    have tests : ∀ q ∈ ags rs, ∃ l2 m2 d2, loopD rs q = .tuple [I d2, I q, I l2, I m2] ∧ agAt rs q = some (l2, m2, d2) := fun q hq => by
      obtain ⟨_, l2, m2, d2, _, a⟩ := ags_ok hq
      exact ⟨l2, m2, d2, by unfold loopD; rw [a], a⟩
    have pin : p ∈ ags rs := List.mem_filter.mpr ⟨List.mem_range.mpr hp, by rw [ag]; rfl⟩
    have ownD : loopD rs p = .tuple [I d, I p, I l, I m] := by
      unfold loopD
      rw [ag]
    have hd0 : ∀ L : List Nat, p ∈ L → (L.filterMap fun q => if q = p then some (loopD rs q) else none)[0]? = some (.tuple [I d, I p, I l, I m]) := fun L => by
      induction L with
      | nil => exact fun z => nomatch z
      | cons a L ih =>
        intro z
        rw [List.filterMap_cons]
        by_cases e : a = p
        · rw [if_pos e, e, ownD]
          rfl
        · rw [if_neg e]
          exact ih ((List.mem_cons.mp z).resolve_left fun z => e z.symm)
    have h0 := hd0 _ pin
    walk_at "go"
    refine XE.lc (own := [("loop", 7)]) fm nd (blkOk_by (by decide +kernel)) ?_ (by walk_at "rr2")
    refine XI.list fm ?_
    walk_at "go"
    refine LcK.fa (ags rs) (loopD rs) (fun q => if q = p then some (loopD rs q) else none) (by omega) (fun q hq => ?_) ?_
    · obtain ⟨l2, m2, d2, eq, aq⟩ := tests q hq
      rw [eq]
      walk_at "go"
      refine ifd (fun h => ?_) (fun h => ?_)
      · walk_at "go"
        rw [if_pos (Int.ofNat.inj h)]
      · rw [if_neg fun z => h (by rw [z])]
    walk_at "go"
    have okb : ∀ q ∈ ags rs, ∀ l2 m2 d2, agAt rs q = some (l2, m2, d2) → (match agAt rs q with | some (_, _, d2) => decide (q ≠ p) && decide (d2 ≤ q) | none => false) = (decide (q ≠ p) && decide (d2 ≤ q)) := fun q _ l2 m2 d2 a => by rw [a]
    refine XS.lcS fm nd (by walk_at "at") (by rfl) [("loop", 7)] (blkOk_by (by decide +kernel)) ?_ (by walk_at "rr") (by walk_at "rr2")
    refine XI.list fm ?_
    walk_at "go"
    refine LcK.fa (ags rs) (loopD rs) (fun q => if (match agAt rs q with | some (_, _, d2) => decide (q ≠ p) && decide (d2 ≤ q) | none => false) = true then some (loopD rs q) else none) (by omega) (fun q hq => ?_) ?_
    · obtain ⟨l2, m2, d2, eq, aq⟩ := tests q hq
      rw [okb q hq l2 m2 d2 aq, eq]
      walk_at "go"
      refine ifb (fun h => ?_) (fun h => ?_)
      · have h : ¬ (q : Int) = (p : Int) := by simpa using h
        have hq2 : q ≠ p := fun z => h (by rw [z])
        walk_at "go"
        refine ifd (fun h2 => ?_) (fun h2 => ?_)
        · walk_at "go"
          rw [if_pos (by simp [hq2]; omega)]
        · rw [if_neg (by simp [hq2]; omega)]
      · have h : (q : Int) = (p : Int) := by simpa using h
        have hq2 : q = p := Int.ofNat.inj h
        rw [if_neg Bool.false_ne_true, if_neg (by simp [hq2])]
    have fm1 : (ags rs).filterMap (fun q => if (match agAt rs q with | some (_, _, d2) => decide (q ≠ p) && decide (d2 ≤ q) | none => false) = true then some (loopD rs q) else none) = ((ags rs).filter fun q => match agAt rs q with | some (_, _, d2) => decide (q ≠ p) && decide (d2 ≤ q) | none => false).map (loopD rs) := by
      generalize ags rs = L
      induction L with
      | nil => rfl
      | cons a L ih =>
        rw [List.filterMap_cons, List.filter_cons]
        cases hb : (match agAt rs a with | some (_, _, d2) => decide (a ≠ p) && decide (d2 ≤ a) | none => false) with
        | true =>
          rw [if_pos rfl, if_pos rfl, ih]
          rfl
        | false => rw [if_neg Bool.false_ne_true, if_neg Bool.false_ne_true, ih]
    rw [fm1]
    have fl2 : ((ags rs).filter fun q => match agAt rs q with | some (_, _, d2) => decide (q ≠ p) && decide (d2 ≤ q) | none => false).length ≤ 100 := Nat.le_trans (List.length_filter_le _ _) (by omega)
    walk_at "go"
    refine XE.lc (own := [("other", 9)]) fm nd (blkOk_by (by decide +kernel)) ?_ (by walk_at "rr2")
    refine XI.list fm ?_
    walk_at "go"
    refine LcK.mp _ (loopD rs) (fun q => .bool (match agAt rs q with | some (l2, _, d2) => crossB l d p l2 d2 q | none => false)) (by omega) (fun q hq => ?_) ?_
    · obtain ⟨l2, m2, d2, eq, aq⟩ := tests q (List.mem_filter.mp hq).1
      rw [eq]
      walk_at "go"
      refine ⟨d, p, l, m, d2, q, l2, m2, rfl, ?_⟩
      rw [aq]
      walk_at "go"
      rfl
    refine ⟨((ags rs).filter fun q => match agAt rs q with | some (_, _, d2) => decide (q ≠ p) && decide (d2 ≤ q) | none => false).map fun q => match agAt rs q with | some (l2, _, d2) => crossB l d p l2 d2 q | none => false, by rw [List.map_map]; rfl, ?_⟩
    have ec : (((ags rs).filter fun q => match agAt rs q with | some (_, _, d2) => decide (q ≠ p) && decide (d2 ≤ q) | none => false).map fun q => match agAt rs q with | some (l2, _, d2) => crossB l d p l2 d2 q | none => false).any id = crossed rs l d p := by
      unfold crossed
      generalize ags rs = L
      induction L with
      | nil => rfl
      | cons a L ih =>
        rw [List.filter_cons, List.any_cons]
        have cq : crossQ rs l d p a = ((match agAt rs a with | some (_, _, d2) => decide (a ≠ p) && decide (d2 ≤ a) | none => false) && (match agAt rs a with | some (l2, _, d2) => crossB l d p l2 d2 a | none => false)) := by
          unfold crossQ
          cases agAt rs a with
          | none => rfl
          | some t => simp only [Bool.and_assoc]
        rw [cq]
        cases hb : (match agAt rs a with | some (_, _, d2) => decide (a ≠ p) && decide (d2 ≤ a) | none => false) with
        | true =>
          rw [if_pos rfl, List.map_cons, List.any_cons, ih, Bool.true_and]
          rfl
        | false => rw [if_neg Bool.false_ne_true, ih, Bool.false_and, Bool.false_or]
    rw [ec]
    refine ⟨_, rfl, ?_⟩
    refine ifb (fun h => ?_) (fun h => ?_)
    · rw [if_pos h] at hk
      walk_at "go"
      exact hk
    · rw [h, if_neg Bool.false_ne_true] at hk
      walk_at "go"
      exact hk
theorem c_flaw_of (M : Md w K mg) (c1 : CAimOf P w K mg base 1 spAim) (c2 : CBackFlaw P w K mg base 2 spBack) : CFlawOf P w K mg base 3 spFlawOf := by
  refine goFlawOf M ?_ ?_
  · rintro ds k0 ⟨rs, p, rfl, _⟩
    rfl
  · intro f cdv A outer s H E fm nd ds k0 h
    obtain ⟨rs, p, rfl, hs, hp, hk⟩ := h
    have e0 : encS rs = .tuple (rs.map Row.enc) := rfl
    rw [e0]
    have hl := hs.len
    have hll : (rs.map Row.enc).length = rs.length := List.length_map _
    obtain ⟨v, ev, hv, ev2⟩ := row_at hs hp
    have fl : flawAt rs p = flawR rs p v := by unfold flawAt; rw [ev]
    have jmp : ∀ (d : Nat), flawR rs p v = (if p < d ∧ d < rs.length then [] else ["far"] : List Str) → ((p < d ∧ d < rs.length) → k0 (.list [])) ∧ (¬ (p < d ∧ d < rs.length) → k0 (.list [.str "far"])) := fun d h => by
      rw [fl, h] at hk
      constructor
      · intro z
        rw [if_pos z] at hk
        exact hk
      · intro z
        rw [if_neg z] at hk
        exact hk
    cases v with
    | plain o xs =>
      rw [fl] at hk
      have hn := plain_no hv
      simp only [Row.enc] at ev2
      walk_at "go"
      refine ifd (fun h => ?_) (fun h => ?_)
      · simp only [List.mem_cons, List.mem_nil_iff, or_false] at h
        rcases h with h | h | h
        · exact absurd h hn.2.2.1
        · exact absurd h hn.2.2.2.1
        · exact absurd h hn.2.2.2.2
      walk_at "go"
      refine ifd (fun h => absurd h hn.2.1) (fun h => ?_)
      walk_at "go"
      exact hk
    | begin l =>
      rw [fl] at hk
      simp only [Row.enc] at ev2
      walk_at "go"
      exact hk
    | jump d =>
      obtain ⟨j1, j2⟩ := jmp d rfl
      simp only [Row.enc] at ev2
      walk_at "go"
      refine ⟨_, d, rfl, rfl, ?_⟩
      walk_at "go"
      refine ifd (fun h => ?_) (fun h => ?_)
      · walk_at "go"
        rw [hll]
        refine ifd (fun h2 => ?_) (fun h2 => ?_)
        · walk_at "go"
          exact j1 ⟨by omega, by omega⟩
        · walk_at "go"
          exact j2 (by omega)
      · walk_at "go"
        exact j2 (by omega)
    | when c a b d =>
      obtain ⟨j1, j2⟩ := jmp d rfl
      simp only [Row.enc] at ev2
      walk_at "go"
      refine ⟨_, d, rfl, rfl, ?_⟩
      walk_at "go"
      refine ifd (fun h => ?_) (fun h => ?_)
      · walk_at "go"
        rw [hll]
        refine ifd (fun h2 => ?_) (fun h2 => ?_)
        · walk_at "go"
          exact j1 ⟨by omega, by omega⟩
        · walk_at "go"
          exact j2 (by omega)
      · walk_at "go"
        exact j2 (by omega)
    | whenn c a n d =>
      obtain ⟨j1, j2⟩ := jmp d rfl
      simp only [Row.enc] at ev2
      walk_at "go"
      refine ⟨_, d, rfl, rfl, ?_⟩
      walk_at "go"
      refine ifd (fun h => ?_) (fun h => ?_)
      · walk_at "go"
        rw [hll]
        refine ifd (fun h2 => ?_) (fun h2 => ?_)
        · walk_at "go"
          exact j1 ⟨by omega, by omega⟩
        · walk_at "go"
          exact j2 (by omega)
      · walk_at "go"
        exact j2 (by omega)
    | again l m d =>
      simp only [Row.enc] at ev2
      walk_at "go"
      exact ⟨rs, p, l, m, d, rfl, hs, ev, hk⟩
theorem c_flaws_by (M : Md w K mg) (c1 : CFlawOf P w K mg base 3 spFlawOf) : CFlawsBy P w K mg base 4 spFlaws := by
  refine goFlawsBy M ?_ ?_
  · rintro ds k0 ⟨rs, rfl, _⟩
    rfl
  · intro f cdv A outer s H E fm nd ds k0 h
    obtain ⟨rs, rfl, hs, hk⟩ := h
    have e0 : encS rs = .tuple (rs.map Row.enc) := rfl
    rw [e0]
    have hl := hs.len
    have hll : (rs.map Row.enc).length = rs.length := List.length_map _
    have one : ∀ p w, (flawR rs p w).length ≤ 1 := fun p w => by
      cases w <;> (unfold flawR; (repeat' split) <;> simp)
    have one2 : ∀ p, (flawAt rs p).length ≤ 1 := fun p => by
      unfold flawAt
      split
      · exact one _ _
      · simp
    walk_at "go"
    refine XE.lc2 (own := [("place", 1), ("each", 2)]) (vs1 := [2]) fm nd (blkOk_by (by decide +kernel)) (by decide) ?_ (by walk_at "rr2") (by walk_at "rr2")
    walk_at "go"
    rw [hll]
    refine ⟨fun i acc => acc = ((List.range i).flatMap fun p => (flawAt rs p).map fun s => (p, s)).map flawD ∧ acc.length ≤ i ∧ i ≤ rs.length, ⟨rfl, Nat.le_refl _, Nat.zero_le _⟩, fun i d acc hd ⟨hacc, hal, hir⟩ => ?_, fun acc ⟨hacc, _, _⟩ => ?_⟩
    · obtain ⟨hi, rfl⟩ := rngD_get hd
      have hi : i < rs.length := by omega
      rw [Int.zero_add]
      walk_at "xg"
      refine XTs.nil ⟨rfl, ?_⟩
      refine XI.list (fm.blk _) ?_
      walk_at "go"
      refine ⟨rs, i, rfl, hs, hi, ?_⟩
      refine ⟨_, rfl, ?_⟩
      have o2 := one2 i
      refine ⟨fun j acc' => acc' = acc ++ ((flawAt rs i).take j).map (fun s => flawD (i, s)) ∧ j ≤ (flawAt rs i).length, ⟨by simp, Nat.zero_le _⟩, fun j e acc' he ⟨h1, h2⟩ => ?_, fun acc' ⟨h1, h2⟩ => ?_⟩
      · rw [List.getElem?_map] at he
        cases es : (flawAt rs i)[j]? with
        | none =>
          rw [es] at he
          cases he
        | some t =>
          rw [es] at he
          cases he
          have hj : j < (flawAt rs i).length := by
            by_cases h : j < (flawAt rs i).length
            · exact h
            · rw [List.getElem?_eq_none (by omega)] at es
              cases es
          have al' : acc'.length ≤ 1000 := by
            rw [h1, List.length_append, List.length_map, List.length_take]
            omega
          refine ⟨by omega, ?_⟩
          walk_at "xg"
          refine XTs.nil ⟨rfl, ?_⟩
          walk_at "go"
          refine ⟨?_, hj⟩
          rw [h1, List.take_succ, es, List.append_assoc]
          simp [flawD]
      · rw [List.length_map, List.take_length] at h1
        refine ⟨?_, ?_, hi⟩
        · rw [h1, hacc, List.range_succ, List.flatMap_append, List.map_append]
          simp [Function.comp_def]
        · rw [h1, List.length_append, List.length_map]
          omega
    · rw [rngD_len] at hacc
      rw [hacc]
      walk_at "go"
      exact hk
end
def spTimes : Sc := fun ds k => ∃ (rs : List Row) (q : Nat), ds = [.list ((ags rs).map (loopD rs)), I q] ∧ SieveOk rs ∧ k (I (often rs q))
/-- the bound, or None beside flaws -/
def boundD (rs : List Row) : PyData := if (flawsOf rs).isEmpty = true then I (boundOf rs) else .none
def spBoundBy : Sc := fun ds k => ∃ (rs : List Row), ds = [encS rs] ∧ SieveOk rs ∧ k (boundD rs)
theorem flaw_str {rs : List Row} {p : Nat} {s : Str} (h : s ∈ flawAt rs p) : PyData.canLay0 (.str s) = true := by
  have key : s = "far" ∨ s = "back" ∨ s = "begin" ∨ s = "crossed" := by
    unfold flawAt at h
    cases e : rs[p]? with
    | none =>
      rw [e] at h
      cases h
    | some w =>
      rw [e] at h
      have h : s ∈ flawR rs p w := h
      cases w <;> (unfold flawR at h; (repeat' split at h) <;> simp at h <;> simp [h])
  rcases key with rfl | rfl | rfl | rfl <;> decide +kernel
theorem flaws_sh (rs : List Row) : ∀ x ∈ (flawsOf rs).map flawD, Sh 1 x := fun x hx => by
  obtain ⟨q, hq, rfl⟩ := List.mem_map.mp hx
  obtain ⟨p, _, hp⟩ := List.mem_flatMap.mp hq
  obtain ⟨s, hs, rfl⟩ := List.mem_map.mp hp
  exact sh_tup (shl_cons (sh_int _) (shl_cons (sh_str (flaw_str hs)) shl_nil))
section
variable {P : Program} {w : World} {K : PySem.W.Frag} {mg : Str → Option Value} {base : Heap}
theorem c_times_of (M : Md w K mg) : CTimesOf P w K mg base 1 spTimes := by
  refine goTimesOf M ?_ ?_
  · rintro ds k0 ⟨rs, q, rfl, _⟩
    rfl
  · intro f cdv A outer s H E fm nd ds k0 h
    obtain ⟨rs, q, rfl, hs, hk⟩ := h
    walk_at "go"
    refine XS.for fm [3, 4, 5, 6] (fun j s' => ∃ o1 o2 o3 o4, s' = ([some (.list ((ags rs).map (loopD rs))), some (I q), some (I (((ags rs).take j).foldl (oftenF rs q) 1)), o1, o2, o3, o4], none)) (by walk_at "rr2") ?_
    refine XI.list fm ?_
    walk_at "go"
    refine ⟨⟨none, none, none, none, rfl⟩, fun j d δ' m' hd hP => ?_, fun δ' m' hP => ?_⟩
    · obtain ⟨o1, o2, o3, o4, es⟩ := hP
      cases es
      rw [List.getElem?_map] at hd
      cases eq : (ags rs)[j]? with
      | none =>
        rw [eq] at hd
        cases hd
      | some p =>
        rw [eq] at hd
        cases hd
        obtain ⟨hp, l2, m2, d2, eq2, ag⟩ := ags_ok (List.mem_of_getElem? eq)
        obtain ⟨_, _, hm2, hd2⟩ := hs.rows _ (List.mem_of_getElem? eq2)
        have tk : ((ags rs).take (j + 1)).foldl (oftenF rs q) 1 = oftenF rs q (((ags rs).take j).foldl (oftenF rs q) 1) p := by
          rw [List.take_succ, eq, List.foldl_append]
          rfl
        have of : ∀ acc, oftenF rs q acc p = if d2 ≤ q ∧ q ≤ p then acc * (m2 + 1) else acc := fun acc => by
          unfold oftenF
          rw [ag]
        have ld : loopD rs p = .tuple [I d2, I p, I l2, I m2] := by
          unfold loopD
          rw [ag]
        rw [ld]
        refine ⟨fun q e => (by cases e), ?_⟩
        walk_at "go"
        refine ifd (fun h => ?_) (fun h => ?_)
        · walk_at "go"
          refine ifd (fun h2 => ?_) (fun h2 => ?_)
          · walk_at "go"
            exact ⟨_, _, _, _, by rw [tk, of, if_pos (by omega)]; rfl⟩
          · walk_at "go"
            exact ⟨_, _, _, _, by rw [tk, of, if_neg (by omega)]; rfl⟩
        · walk_at "go"
          exact ⟨_, _, _, _, by rw [tk, of, if_neg (by omega)]; rfl⟩
    · obtain ⟨o1, o2, o3, o4, es⟩ := hP
      cases es
      rw [List.length_map, List.take_length]
      walk_at "go"
      exact hk
theorem c_bound_by (M : Md w K mg) (c1 : CFlawsBy P w K mg base 4 spFlaws) (c2 : CLoopsBy P w K mg base 1 spLoopsBy) (c3 : CTimesOf P w K mg base 1 spTimes) : CBoundBy P w K mg base 5 spBoundBy := by
  refine goBoundBy M ?_ ?_
  · rintro ds k0 ⟨rs, rfl, _⟩
    rfl
  · intro f cdv A outer s H E fm nd ds k0 h
    obtain ⟨rs, rfl, hs, hk⟩ := h
    have e0 : encS rs = .tuple (rs.map Row.enc) := rfl
    rw [e0]
    have hl := hs.len
    have hll : (rs.map Row.enc).length = rs.length := List.length_map _
    unfold boundD at hk
    walk_at "go"
    refine ⟨rs, rfl, hs, ?_⟩
    walk_at "go"
    refine eqK_nilT (flaws_sh rs) (by omega) ?_
    have em : ((flawsOf rs).map flawD).isEmpty = (flawsOf rs).isEmpty := by cases flawsOf rs <;> rfl
    rw [em]
    refine ifb (fun h => ?_) (fun h => ?_)
    · rw [if_neg (by rw [show (flawsOf rs).isEmpty = false by simpa using h]; decide)] at hk
      walk_at "go"
      exact hk
    · rw [if_pos (by simpa using h)] at hk
      walk_at "go"
      refine ⟨rs, rfl, hs, ?_⟩
      walk_at "go"
      refine XE.lc (own := [("place", 2)]) fm nd (blkOk_by (by decide +kernel)) ?_ (by walk_at "rr2")
      walk_at "go"
      rw [hll]
      refine LcK.mp (List.range rs.length) (fun (j : Nat) => .int (0 + (j : Int))) (fun j => I (often rs j)) (by rw [List.length_range]; omega) (fun j hj => ?_) ?_
      · rw [Int.zero_add]
        walk_at "go"
        refine ⟨rs, j, rfl, hs, ?_⟩
        walk_at "go"
        rfl
      refine ⟨((List.range rs.length).map (often rs)).map ci, by rw [List.map_map, List.map_map]; rfl, ?_⟩
      have es : (((List.range rs.length).map (often rs)).map ci).sum = ((boundOf rs : Nat) : Int) := by
        unfold boundOf
        generalize (List.range rs.length).map (often rs) = L
        induction L with
        | nil => rfl
        | cons a L ih =>
          rw [List.map_cons, List.sum_cons, List.sum_cons, ih]
          show (a : Int) + ((L.sum : Nat) : Int) = ((a + L.sum : Nat) : Int)
          omega
      rw [es]
      exact hk
theorem c_flaws (M : Md w K mg) (c1 : CCheckSieve P w K mg base 6 spCheck) (c2 : CFlawsBy P w K mg base 4 spFlaws) : CFlaws P w K mg base 7 spFlaws := by
  refine goFlaws M ?_ ?_
  · rintro ds k0 ⟨rs, rfl, _⟩
    rfl
  · intro f cdv A outer s H E fm nd ds k0 h
    obtain ⟨rs, rfl, hs, hk⟩ := h
    walk_at "go"
    refine ⟨rs, rfl, hs, ?_⟩
    walk_at "go"
    exact ⟨rs, rfl, hs, hk⟩
theorem c_steps_bound (M : Md w K mg) (c1 : CCheckSieve P w K mg base 6 spCheck) (c2 : CBoundBy P w K mg base 5 spBoundBy) : CStepsBound P w K mg base 7 spBoundBy := by
  refine goStepsBound M ?_ ?_
  · rintro ds k0 ⟨rs, rfl, _⟩
    rfl
  · intro f cdv A outer s H E fm nd ds k0 h
    obtain ⟨rs, rfl, hs, hk⟩ := h
    walk_at "go"
    refine ⟨rs, rfl, hs, ?_⟩
    walk_at "go"
    exact ⟨rs, rfl, hs, hk⟩
end
/-! _law_right answers True. -/
section
variable {P : Program} {w : World} {K : PySem.W.Frag} {mg : Str → Option Value} {base : Heap} {x : Str} {st : Stmt} {f : Addr} {fd : FuncData} {N ps ks : List Str} {sp : Sc} {k : Nat}
theorem CalK.of (F : FunD K x x (defArgs st) (defBody st) (defScope st) [] [] f fd) (hm : mg x = some (.ref f)) (S : FnScope N ps (defScope st))
    (hb : ∀ (kV doc pm : Value) (an : Option Addr) (cdv ct : Value) (us ws : List Value), (us ++ ws).length = ps.length → bindArgs (PySem.W.fnOf x x (defArgs st) (defBody st) (defScope st) .none kV doc pm an cdv ct) ⟨us, ks.zip ws⟩ = pure (ps.zip (us ++ ws)))
    (len : ∀ ds k0, sp ds k0 → ds.length = ps.length)
    (body : ∀ (cdv : Value) (A : Around) (outer : List Env) (s : Shared) (H : Hp) (E : XK), Fm P w K mg base N (defScope st) k (bodyX P w K mg base N x (defScope st) f cdv A outer s H E) → ∀ ds k0, sp ds k0 →
      XSs K (bodyX P w K mg base N x (defScope st) f cdv A outer s H E) (defBody st) ⟨fun _ => k0 .none, k0, fun _ => False, fun _ => False⟩ (entry N ds)) : CalK P w K mg base (k + 1) x ps ks sp := by
  refine ⟨f, fd, F.ok S (fun vs H Q E h => ?_) (fun cdv A outer s H vs Q E hr h => ?_), hm, F.kp, ⟨fun s us ws ki hl => ?_, fun r1 r2 => ?_⟩⟩
  · obtain ⟨wa, G, ds, k0, _, r, h, _⟩ := h
    rw [r.len]
    exact len ds k0 h
  · obtain ⟨wa, G, ds, k0, wd, r, h, hq⟩ := h
    have fm : Fm P w K mg base N (defScope st) k (bodyX P w K mg base N x (defScope st) f cdv A outer s H E) :=
      ⟨fun _ => rfl, fun _ => rfl, fun _ => rfl, fun _ => rfl, fun _ => rfl, fun _ => rfl, fun _ => rfl, fun _ => rfl, fun _ => hr, fun _ => rfl⟩
    obtain ⟨t, p, q⟩ := body cdv A outer s H E fm ds k0 h wa G H G (start N vs) G H { nx := fun _ H' => Q .non H', rt := Q }
      ⟨Le.refl wd, fun _ _ e => e, by
        have e := EnvOk.start (N.length - ds.length) r
        rw [← r.len] at e
        unfold entry
        rw [← r.len]
        exact e, fun _ _ z => nomatch z⟩
      ⟨fun s' σ' G' H' I z => hq .non .none G' H' I.le (.inl .non) z, fun _ _ _ _ _ z => z.elim, fun _ _ _ _ _ z => z.elim, fun v d G' H' l r z => hq v d G' H' l r z⟩
    exact ⟨t, (p ()).nox, q⟩
  · obtain ⟨oc, od, dV, kV, doc, pm, an, cdv, ct, osl, rfl, lk, hcd, hD, hK⟩ := F.ex
    rcases hD with ⟨_, rfl⟩ | ⟨e, _⟩
    · exact .of_eq (hb kV doc pm an cdv ct us ws hl)
    · exact absurd rfl e
  · exact .append r1 r2
theorem k_flaws (M : Md w K mg) (c1 : CCheckSieve P w K mg base 6 spCheck) (c2 : CFlawsBy P w K mg base 4 spFlaws) : CalK P w K mg base 7 "flaws" ["sieve"] ["sieve"] spFlaws := by
  obtain ⟨f, fd, F, hm⟩ := M.fFlaws
  have nd := scFlaws.nd
  refine CalK.of F hm scFlaws (fun _ _ _ _ _ _ us ws hl => match us, ws, hl with | [_], [], _ => rfl | [], [_], _ => rfl) ?_ ?_
  · rintro ds k0 ⟨rs, rfl, _⟩
    rfl
  · intro cdv A outer s H E fm ds k0 h
    obtain ⟨rs, rfl, hs, hk⟩ := h
    walk_at "go"
    refine ⟨rs, rfl, hs, ?_⟩
    walk_at "go"
    exact ⟨rs, rfl, hs, hk⟩
theorem k_steps_bound (M : Md w K mg) (c1 : CCheckSieve P w K mg base 6 spCheck) (c2 : CBoundBy P w K mg base 5 spBoundBy) : CalK P w K mg base 7 "steps_bound" ["sieve"] ["sieve"] spBoundBy := by
  obtain ⟨f, fd, F, hm⟩ := M.fStepsBound
  have nd := scStepsBound.nd
  refine CalK.of F hm scStepsBound (fun _ _ _ _ _ _ us ws hl => match us, ws, hl with | [_], [], _ => rfl | [], [_], _ => rfl) ?_ ?_
  · rintro ds k0 ⟨rs, rfl, _⟩
    rfl
  · intro cdv A outer s H E fm ds k0 h
    obtain ⟨rs, rfl, hs, hk⟩ := h
    walk_at "go"
    refine ⟨rs, rfl, hs, ?_⟩
    walk_at "go"
    exact ⟨rs, rfl, hs, hk⟩
end
/-! _law_right answers True. -/
def spRight : Sc := fun ds k => ds = [wel] ∧ k (.bool true)
section
variable {P : Program} {w : World} {K : PySem.W.Frag} {mg : Str → Option Value} {base : Heap}
theorem g_right (M : Md w K mg) (cg : CLGrant P w K mg base 4 spGrant) (cs : CLSieve P w K mg base 9 spSieve) (cf : CLFlaws P w K mg base 4 spFlaws) (cb : CLBound P w K mg base 2 spBound) (pf : CFlaws P w K mg base 7 spFlaws) (pb : CStepsBound P w K mg base 7 spBoundBy)
    (kf : CalK P w K mg base 7 "flaws" ["sieve"] ["sieve"] spFlaws) (kb : CalK P w K mg base 7 "steps_bound" ["sieve"] ["sieve"] spBoundBy) (ct : CLFitting P w K mg base 5 spFitting) (cst : CLStep P w K mg base 4 spStep) (cp : CLPutIn P w K mg base 3 spPutIn) :
    CalG P w K mg base 10 "_law_right" ["_law_well_here"] spRight := by
  obtain ⟨f, fd, F, hm⟩ := M.fLRight
  have nd := scLRight.nd
  refine CalG.of F hm scLRight (fun _ _ _ _ _ _ us hl => match us, hl with | [_], _ => rfl) ?_ ?_
  · rintro ds k0 ⟨rfl, _⟩
    rfl
  · intro cdv A outer s H E fm gd ds k0 h
    obtain ⟨rfl, hk⟩ := h
    walk_at "go"
    refine ⟨rfl, fun g hg => ?_⟩
    walk_at "go"
    refine ⟨g, rfl, hg, fun rs0 hs0 => ?_⟩
    walk_at "go"
    refine XS.for fm [3] (fun j s' => ∃ rs o3 o4 o5 o6 o7, SieveOk rs ∧ s' = ([some wel, some g, some (encS rs), o3, o4, o5, o6, o7], none)) (by walk_at "rr2") ?_
    walk_at "go"
    refine ⟨⟨rs0, _, _, _, _, _, hs0, rfl⟩, fun i d δ' m' hd hP => ?_, fun δ' m' hP => ?_⟩
    · obtain ⟨hi, rfl⟩ := rngD_get hd
      obtain ⟨rs, o3, o4, o5, o6, o7, hs, es⟩ := hP
      cases es
      refine ⟨fun q e => (by cases e), ?_⟩
      walk_at "go"
      refine ⟨rs, rfl, hs, ?_⟩
      walk_at "gi"
      have em : ((flawsOf rs).map flawD).isEmpty = (flawsOf rs).isEmpty := by cases flawsOf rs <;> rfl
      refine XE.imp (k := fun d => d = boundD rs) (XE.ite ?_) ?_
      · walk_at "go"
        refine eqK_nilT (flaws_sh rs) (by omega) ?_
        rw [em]
        refine ifb (fun h => ?_) (fun h => ?_)
        · walk_at "go"
          refine ⟨rs, rfl, hs, ?_⟩
          unfold boundD
          rw [if_pos h]
        · walk_at "go"
          unfold boundD
          rw [if_neg (by rw [h]; decide)]
      rintro d rfl
      have rf := rep_flaws hs
      have rb : RepOk (boundD rs) := by
        unfold boundD
        split
        · exact rep_bound hs
        · exact rep_none
      walk_at "go"
      refine XE.rep' fm gd (by rfl) M.wo.repr_ ?_ (by walk_at "rr") (by walk_at "rr")
      walk_at "go"
      refine ⟨rs, rfl, hs, rf, ?_⟩
      refine XE.rep' fm gd (by rfl) M.wo.repr_ ?_ (by walk_at "rr") (by walk_at "rr")
      walk_at "go"
      rw [decide_eq_true rfl]
      walk_at "go"
      refine XE.rep' fm gd (by rfl) M.wo.repr_ ?_ (by walk_at "rr") (by walk_at "rr")
      refine XE.callK fm kf (by omega) (by rfl) ?_ (by walk_at "rr") (by walk_at "rr") (by decide) (by walk_at "rr")
      walk_at "go"
      refine ⟨rs, rfl, hs, rf, ?_⟩
      refine XE.rep' fm gd (by rfl) M.wo.repr_ ?_ (by walk_at "rr") (by walk_at "rr")
      walk_at "go"
      rw [decide_eq_true rfl]
      walk_at "go"
      refine XE.rep' fm gd (by rfl) M.wo.repr_ ?_ (by walk_at "rr") (by walk_at "rr")
      walk_at "go"
      refine ⟨rs, rfl, hs, rb, ?_⟩
      refine XE.rep' fm gd (by rfl) M.wo.repr_ ?_ (by walk_at "rr") (by walk_at "rr")
      walk_at "go"
      rw [decide_eq_true rfl]
      walk_at "go"
      refine XE.rep' fm gd (by rfl) M.wo.repr_ ?_ (by walk_at "rr") (by walk_at "rr")
      refine XE.callK fm kb (by omega) (by rfl) ?_ (by walk_at "rr") (by walk_at "rr") (by decide) (by walk_at "rr")
      walk_at "go"
      refine ⟨rs, rfl, hs, rb, ?_⟩
      refine XE.rep' fm gd (by rfl) M.wo.repr_ ?_ (by walk_at "rr") (by walk_at "rr")
      walk_at "go"
      rw [decide_eq_true rfl]
      walk_at "go"
      refine eqK_nilT (flaws_sh rs) (by omega) ?_
      rw [em]
      refine ifb (fun h => ?_) (fun h => ?_)
      · have ff := free_of h
        have bD : boundD rs = I (boundOf rs) := by
          unfold boundD
          rw [if_pos h]
        rw [bD]
        walk_at "go"
        refine ⟨g, rfl, hg, fun r1 hr1 _ _ hn0 he0 => ?_⟩
        walk_at "go"
        refine XS.for fm [7] (fun j s' => ∃ (r : Run) (o7 : Option PyData), r.Ok ∧ Few rs r ∧ (r.e = .none → r.n = j) ∧ s' = ([some wel, some g, some (encS rs), some (.int (0 + (i : Int))), some (flawsD rs), some (I (boundOf rs)), some r.enc, o7], none)) (by walk_at "rr2") ?_
        walk_at "go"
        refine ⟨⟨r1, _, hr1, few_start hn0 he0, fun _ => hn0, rfl⟩, fun j d δ' m' hd hP => ?_, fun δ' m' hP => ?_⟩
        · obtain ⟨hj, rfl⟩ := rngD_get hd
          obtain ⟨r, o7, hr, fw, hn, es⟩ := hP
          cases es
          refine ⟨fun q e => (by cases e), ?_⟩
          walk_at "go"
          refine ⟨rs, r, rfl, hs, hr, fun r' hr' st => ?_⟩
          walk_at "go"
          refine ⟨r', _, hr', few_step ff st fw, fun z => ?_, rfl⟩
          cases st with
          | over h1 h2 => exact absurd (h2 ▸ z) h1
          | out _ _ _ h1 => rw [h1] at z; cases z
          | ends _ _ _ h1 => exact absurd z h1
          | goes _ h1 _ h2 => rw [h2, hn h1]
        · obtain ⟨r, o7, hr, fw, hn, es⟩ := hP
          cases es
          rw [rngD_len] at hn
          have er : r.enc = .tuple [Ts r.ws, Ts r.ca, Ts r.cn, I r.p, Ts r.pk, .tuple (r.tb.map Tab.enc), I r.clk, I r.n, r.e, I r.wr] := rfl
          rw [er]
          walk_at "gt"
          refine XT.imp (k := fun z => z = false) ?_ ?_
          · walk_at "go"
            refine ifd (fun hb => ?_) (fun _ => rfl)
            have he : r.e ≠ .none := fun z => by
              have h1 := hn z
              have h2 := fw.1 z
              split at h1 <;> omega
            have hi : isNone r.e = false := by
              cases eq : r.e with
              | none => exact absurd eq he
              | _ => rfl
            obtain ⟨f1, f2⟩ := fw.2 he
            walk_at "gi"
            refine ifF hi ?_
            walk_at "gi"
            refine XE.ite ?_
            walk_at "go"
            refine eqK_place hr.en fun b h1 h2 => ?_
            refine ifb (fun hb2 => ?_) (fun hb2 => ?_)
            · walk_at "go"
              exact decide_eq_false (by omega)
            · have f3 := f2 fun z => by rw [h2 z] at hb2; cases hb2
              walk_at "go"
              exact decide_eq_false (by omega)
          rintro z rfl
          walk_at "go"
          refine ⟨rs, rfl, hs, fun rs2 hs2 => ?_⟩
          walk_at "go"
          exact ⟨rs2, _, _, _, _, _, hs2, rfl⟩
      · walk_at "go"
        refine ⟨rs, rfl, hs, fun rs2 hs2 => ?_⟩
        walk_at "go"
        exact ⟨rs2, _, _, _, _, _, hs2, rfl⟩
    · obtain ⟨rs, o3, o4, o5, o6, o7, hs, es⟩ := hP
      cases es
      walk_at "go"
      exact hk
end
end K19
set_option maxHeartbeats 4000000
/-! Readings at the heap itself (where no well stands yet). -/
namespace K19
open PySem PySem.Spec PyProof.Rows L2
section
variable {ι : Type} {K : PySem.W.Frag} {X : ι → Cx} {e a b c tg iter : Expr} {es : List Expr} {pos p p2 : Pos} {P : Program} {w : World} {mg : Str → Option Value} {base : Heap} {N : List Str} {sc : Scope} {n : Nat} {σ : St} {H : Hp} {Q : VK} {D : Ends} {x : Str} {st : Stmt} {rest body : List Stmt}
theorem rE_mono {Q' : VK} (h : rE X e σ H Q) (g : ∀ v H', Q v H' → Q' v H') : rE X e σ H Q' := by
  obtain ⟨t, p, q⟩ := h
  exact ⟨fun σ H R => ∃ Q, t σ H Q ∧ ∀ v H', Q v H' → R v H', fun i => ⟨fun pins s σ H R I ⟨Q, h, hq⟩ => thn ((p i).run pins s σ H Q I h) fun u s1 ⟨x, H1, I1, r1, q1⟩ => ⟨x, H1, I1, r1, hq _ _ q1⟩⟩, Q, q, g⟩
theorem z_var {j : Nat} {v : V} (f : Fm P w K mg base N sc n X) (hN : N[j]? = some x) (hv : Vis sc x) (hσ : σ[j]? = some (some v)) (h : Q v H)
    (hd : (x == ("__debug__" : Str)) = false := by decide) (hcd : (x == ("__classdict__" : Str)) = false := by decide) : rE X (.Name x pos) σ H Q :=
  ⟨tVar j, fun i => pe_var (by rw [f.N_ i]; exact hN) (by rw [f.sc_ i]; exact hv) hd hcd, v, hσ, h⟩
theorem z_int {i : Int} {j : Nat} (h : Q (.int i) H) : rE X (.Constant (.int i) j pos) σ H Q := ⟨_, fun _ => pe_int, h⟩
theorem z_op {op : Operator} {r : R2} (ho : ∀ i, OpR (X i) (binaryOp op) r) (h : rE X a σ H fun x H1 => rE X b σ H1 fun y H2 => r x y H2 Q) : rE X (.BinOp a op b pos) σ H Q := ⟨_, fun i => pe_op (ho i) (rE_ok X a i) (rE_ok X b i), h⟩
theorem z_cmp {op : CmpOp} {r : R2} {R : Bool → Hp → Prop} (ho : ∀ i, OpR (X i) (compareOp op) r) (hm : behindInMarks op b = false) (h : rE X a σ H fun x H1 => rE X b σ H1 fun y H2 => r x y H2 fun v H' => ∃ c, v = .bl c ∧ R c H') : rT X (.Compare a [op] [b] pos) σ H R :=
  ⟨_, fun i => pt_cmpR (ho i) (rE_ok X a i) (rE_ok X b i) hm, h⟩
theorem z_ite (h : rT X c σ H fun z H1 => if z = true then rE X a σ H1 Q else rE X b σ H1 Q) : rE X (.IfExp c a b pos) σ H Q := ⟨_, fun i => pe_ifExp (rT_ok X c i) (rE_ok X a i) (rE_ok X b i), h⟩
theorem z_ix (f : Fm P w K mg base N sc n X) (h : rE X a σ H fun x H1 => rE X b σ H1 fun y H2 => rIxL K x y H2 Q) (hs : PlainIx b := by intro _ _; rfl) : rE X (.Subscript a b pos) σ H Q := ⟨tOp (rIxL K) (rE X a) (rE X b), fun i => by
  have h := pe_ix (X := X i) (pos := pos) (ix_list (X := X i)) (rE_ok X a i) (rE_ok X b i) hs
  rw [f.K_ i] at h
  exact h, h⟩
theorem z_sl (f : Fm P w K mg base N sc n X) (h : rE X a σ H fun x H1 => rE X b σ H1 fun y H2 => ∃ u, y = .int u ∧ rSlL K x none (some u) H2 Q) : rE X (.Subscript a (.Slice none (some b) none p2) pos) σ H Q := ⟨tSl (rSlL K) (rE X a) tNoPart (tPart (rE X b)), fun i => by
  have h := pe_slice (X := X i) (pos := pos) (p2 := p2) (sl_list (X := X i)) (rE_ok X a i) po_none (po_some (rE_ok X b i))
  rw [f.K_ i] at h
  exact h, h⟩
theorem z_lst (h : rA X es σ H fun xs H1 => xs.length ≤ sizeLine ∧ ∀ p, H1 p = none → Q (.ref p) (upd H1 p (.lst xs))) : rE X (.List es pos) σ H Q := ⟨_, fun i => pe_lst (rA_ok X es i), h⟩
theorem z_A0 {R : List V → Hp → Prop} (h : R [] H) : rA X [] σ H R := ⟨tNil, fun i => pa_nil, h⟩
theorem z_A {R : List V → Hp → Prop} (h : rE X e σ H fun v H1 => rA X es σ H1 fun vs H2 => R (v :: vs) H2) (hs : ∀ i, starEach (e :: es) (X i).env = (false, eval e (X i).env) :: starEach es (X i).env := by intro _; rfl) : rA X (e :: es) σ H R :=
  ⟨tCons (rE X e) (rA X es), fun i => pa_cons (rE_ok X e i) (rA_ok X es i) (hs i), h⟩
theorem z_cb {id : String} {r : List V → Hp → VK → Prop} (f : Fm P w K mg base N sc n X) (hc : ∀ i, CallR (X i) (.builtin id) r) (hg : sc.names.lookup x = some .globalImplicit) (hm : mg x = none) (hv : bootBuiltins x = some (.builtin id)) (h : rE X e σ H fun v H1 => r [v] H1 Q)
    (hn : x ≠ "__name__" := by decide) (hdb : (x == ("__debug__" : Str)) = false := by decide) (he : ∀ i, starEach (e :: []) (X i).env = (false, eval e (X i).env) :: starEach [] (X i).env := by intro _; rfl) (hpl : ∀ i, (backTo pos (starEach [] (X i).env)).any (·.1) = false := by intro _; rfl) :
    rE X (.Call (.Name x p) [e] [] pos) σ H Q := ⟨_, fun i => pe_callB (hc i) (f.gl hg i) (by rw [f.mg_ i]; exact hm) hv (pa_cons (rE_ok X e i) pa_nil (he i)) hn hdb (he i) (hpl i), h⟩
theorem z_ct {id : String} {r : List V → Hp → VK → Prop} (f : Fm P w K mg base N sc n X) (hc : ∀ i, CallR (X i) (.type id) r) (hg : sc.names.lookup x = some .globalImplicit) (hm : mg x = none) (hv : bootBuiltins x = some (.type id)) (h : rE X e σ H fun v H1 => r [v] H1 Q)
    (hn : x ≠ "__name__" := by decide) (hdb : (x == ("__debug__" : Str)) = false := by decide) (he : ∀ i, starEach (e :: []) (X i).env = (false, eval e (X i).env) :: starEach [] (X i).env := by intro _; rfl) (hpl : ∀ i, (backTo pos (starEach [] (X i).env)).any (·.1) = false := by intro _; rfl) :
    rE X (.Call (.Name x p) [e] [] pos) σ H Q := ⟨_, fun i => pe_callTy (hc i) (f.gl hg i) (by rw [f.mg_ i]; exact hm) hv (pa_cons (rE_ok X e i) pa_nil (he i)) hn hdb (he i) (hpl i), h⟩
/-- int(e), e an int -/
theorem z_toint (f : Fm P w K mg base N sc n X) (hg : sc.names.lookup ("int" : Str) = some .globalImplicit) (hm : mg "int" = none) (h : rE X e σ H fun v H1 => ∃ i, v = .int i ∧ Q (.int i) H1)
    (he : ∀ i, starEach (e :: []) (X i).env = (false, eval e (X i).env) :: starEach [] (X i).env := by intro _; rfl) (hpl : ∀ i, (backTo pos (starEach [] (X i).env)).any (·.1) = false := by intro _; rfl) :
    rE X (.Call (.Name "int" p) [e] [] pos) σ H Q := by
  refine z_ct f (r := fun xs H Q => ∃ i, xs = [.int i] ∧ Q (.int i) H) (fun i pins s σ H xs us Q I r ⟨j, e, q⟩ => call_int1 pins s σ H xs us Q I r (.inl ⟨j, e, q⟩)) hg hm PyProof.Rows.boot_int (rE_mono h fun v H1 ⟨i, e, q⟩ => ⟨i, by rw [e], q⟩) (by decide) (by decide) he hpl
/-! ### calls -/
theorem z_callG {g : Addr} {gd : FuncData} {ps : List Str} {j : Nat} {sp : List V → Hp → VK → Prop} (f : Fm P w K mg base N sc n X) (hgd : ∀ i, (X i).A.guards = some []) (F : FnG P w K mg base j g gd ps sp) (hj : j ≤ n) (hg : sc.names.lookup x = some .globalImplicit) (hm : mg x = some (.ref g)) (hk : PySem.W.keepIn K (.ref g) = true) (hb : Binds K gd ps [])
    (h : rA X (e :: es) σ H fun vs G => sp vs G Q)
    (hdb : (x == ("__debug__" : Str)) = false := by decide) (he : ∀ i, starEach (e :: es) (X i).env = (false, eval e (X i).env) :: starEach es (X i).env := by intro _; rfl) (hpl : ∀ i, (backTo pos (starEach es (X i).env)).any (·.1) = false := by intro _; rfl) : rE X (.Call (.Name x p) (e :: es) [] pos) σ H Q :=
  ⟨_, fun i => pe_callG (fd := gd) (ps := ps) (k := j) (sp := sp) (by
    rw [f.P_ i, f.w_ i, f.K_ i, f.mg_ i, f.base_ i]
    exact F) (f.room' hj i) (hgd i) (f.gl hg i) (by rw [f.mg_ i]; exact hm) (by rw [f.K_ i]; exact hk) (by rw [f.K_ i]; exact hb) (rA_ok X (e :: es) i) hdb (he i) (hpl i), h⟩
theorem z_call {g : Addr} {gd : FuncData} {ps : List Str} {j : Nat} {sp : Sp} (f : Fm P w K mg base N sc n X) (F : FnOk P w K mg base CX0 j g gd ps sp) (hj : j ≤ n) (hg : sc.names.lookup x = some .globalImplicit) (hm : mg x = some (.ref g)) (hk : PySem.W.keepIn K (.ref g) = true) (hb : Binds K gd ps [])
    (h : rA X (e :: es) σ H fun vs G => sp (vs ++ []) G Q fun _ _ _ => False)
    (hdb : (x == ("__debug__" : Str)) = false := by decide) (he : ∀ i, starEach (e :: es) (X i).env = (false, eval e (X i).env) :: starEach es (X i).env := by intro _; rfl) (hpl : ∀ i, (backTo pos (starEach es (X i).env)).any (·.1) = false := by intro _; rfl) : rE X (.Call (.Name x p) (e :: es) [] pos) σ H Q :=
  ⟨tCall sp [] (fun _ _ _ => False) (rA X (e :: es)), fun i => pe_call (CX := CX0) (fd := gd) (ps := ps) (k := j) (ds := []) (by
    rw [f.P_ i, f.w_ i, f.K_ i, f.mg_ i, f.base_ i]
    exact F) (f.room' hj i) (f.gl hg i) (by rw [f.mg_ i]; exact hm) (by rw [f.K_ i]; exact hk) (by rw [f.K_ i]; exact hb) .nil (fun _ _ _ _ _ _ _ z => z.elim) (rA_ok X (e :: es) i) hdb (he i) (hpl i), h⟩
/-! ### a list by a comprehension -/
theorem z_gn {j : Nat} {v : V} {R : St → Hp → Prop} (f : Fm P w K mg base N sc n X) (hN : N.Nodup) (hi : N[j]? = some x) (hx : Loc sc x) (h : R (σ.set j (some v)) H)
    (hf : ∀ i, (X i).fn x = true ∨ (X i).env.scope.names.lookup x = some .local := by intro _; first | exact .inl rfl | exact .inr rfl) : rG X (.Name x p) v σ H R :=
  ⟨gName j, fun i => pg_name (by rw [f.N_ i]; exact hN) (by rw [f.N_ i]; exact hi) (by rw [f.sc_ i]; exact hx) (hf i), h⟩
theorem z_tn {R : Bool → Hp → Prop} (h : R true H) : rTs X [] σ H R := ⟨tYes, fun _ => pts_nil, h⟩
theorem z_rng {R : It → Hp → Prop} (f : Fm P w K mg base N sc n X) (hg : sc.names.lookup ("range" : Str) = some .globalImplicit) (hm : mg "range" = none) (h : rE X a σ H fun v H1 => ∃ j : Int, v = .int j ∧ -(2 ^ 62) ≤ j ∧ j < 2 ^ 62 ∧ R (Itr 0 j.toNat) H1)
    (hs : ∀ i, starEach (a :: []) (X i).env = (false, eval a (X i).env) :: starEach [] (X i).env := by intro _; rfl) : rI X tg (.Call (.Name "range" p) [a] [] pos) σ H R :=
  ⟨iRng1 (tCons (rE X a) tNil), fun i => pi_range1 (f.gl hg i) (by rw [f.mg_ i]; exact hm) (pa_cons (rE_ok X a i) pa_nil (hs i)) (hs i), rE_mono h fun v H1 ⟨j, e, h1, h2, h3⟩ => ⟨j, by rw [e], h1, h2, h3⟩⟩
theorem z_lc {scope : Scope} {ifs : List Expr} {elt : Expr} {own : List (Str × Nat)} (f : Fm P w K mg base N sc n X) (hN : N.Nodup) (ok : BlkOk N sc scope own) (h : tLc (rI X tg iter) (rG (blkF X scope) tg) (rTs (blkF X scope) ifs) (rE (blkF X scope) elt) (own.map (·.2)) σ H Q)
    (hs : ∀ i x, foldedSetIterable iter (X i).env x = pure x := by intro _ _; rfl) : rE X (.ListComp elt [⟨tg, iter, ifs, 0⟩] scope pos) σ H Q :=
  ⟨tLc (rI X tg iter) (rG (blkF X scope) tg) (rTs (blkF X scope) ifs) (rE (blkF X scope) elt) (own.map (·.2)), fun i => pe_lc (f.calm i) (by rw [f.N_ i]; exact hN) (rI_ok X tg iter i) (by rw [f.N_ i, f.sc_ i]; exact ok) (fun s H C cl fp => rG_ok (blkF X scope) tg (i, s, H, C, cl, fp)) (fun s H C cl fp => rTs_ok (blkF X scope) ifs (i, s, H, C, cl, fp)) (fun s H C cl fp => rE_ok (blkF X scope) elt (i, s, H, C, cl, fp)) (hs i), h⟩
/-! ### statements -/
theorem z_nil (h : D.nx σ H) : rSs X [] D σ H := ⟨_, fun _ => pss_nil, h⟩
theorem z_cons (h : rS X st { D with nx := rSs X rest D } σ H) : rSs X (st :: rest) D σ H := ⟨tSeq (rS X st) (rSs X rest), fun i => pss_cons (rS_ok X st i) (rSs_ok X rest i), h⟩
theorem z_set {j : Nat} (f : Fm P w K mg base N sc n X) (hN : N.Nodup) (hi : N[j]? = some x) (hx : Loc sc x) (h : rE X e σ H fun v H1 => D.nx (σ.set j (some v)) H1)
    (hs : ∀ i, swapsWith e (some (.Name x p2)) pos.line (X i).env = pure false := by intro _; rfl) (hf : ∀ i, (X i).fn x = true ∨ (X i).env.scope.names.lookup x = some .local := by intro _; first | exact .inl rfl | exact .inr rfl) :
    rS X (.Assign [.Name x p2] e pos) D σ H := ⟨tAsg (rE X e) (gName j), fun i => ps_set (by rw [f.N_ i]; exact hN) (by rw [f.N_ i]; exact hi) (by rw [f.sc_ i]; exact hx) (rE_ok X e i) (hs i) (hf i), h⟩
theorem z_ret (h : rE X e σ H D.rt) : rS X (.Return (some e) pos) D σ H := ⟨_, fun i => ps_ret (rE_ok X e i), h⟩
/-- for x in a list -/
theorem z_for {j : Nat} (f : Fm P w K mg base N sc n X) (hN : N.Nodup) (hi : N[j]? = some x) (hx : Loc sc x)
    (h : rE X iter σ H fun v H1 => ∃ a xs, v = .ref a ∧ SqL K H1 a xs ∧ ∃ Pv : Nat → St → Prop, Pv 0 σ ∧ (∀ i u σ', xs[i]? = some u → Pv i σ' → rSs X body { D with nx := fun σ2 H2 => H2 = H1 ∧ Pv (i + 1) σ2, ct := fun σ2 H2 => H2 = H1 ∧ Pv (i + 1) σ2, bk := D.nx } (σ'.set j (some u)) H1) ∧ ∀ σ', Pv xs.length σ' → D.nx σ' H1)
    (hf : ∀ i, (X i).fn x = true ∨ (X i).env.scope.names.lookup x = some .local := by intro _; first | exact .inl rfl | exact .inr rfl) (hs : ∀ k x, foldedSetIterable iter (X k).env x = pure x := by intro _ _; rfl) : rS X (.For (.Name x p) iter body [] pos) D σ H := by
  refine ⟨tFor (iList K (rE X iter)) (gName j) (rSs X body), fun k => ps_for (by rw [f.xe k]; exact PassesOwn.never) (f.calm k) (by
    have z := pi_list (X := X k) (tg := .Name x p) (rE_ok X iter k)
    rw [f.K_ k] at z
    exact z) (pg_name (by rw [f.N_ k]; exact hN) (by rw [f.N_ k]; exact hi) (by rw [f.sc_ k]; exact hx) (hf k)) (rSs_ok X body k) (hs k), ?_⟩
  refine rE_mono h ?_
  rintro v H1 ⟨a, xs, rfl, hx, Pv, h0, ht, he⟩
  refine ⟨a, rfl, ⟨xs, hx⟩, fun i m σ H => m = xs.length - i ∧ i ≤ xs.length ∧ H = H1 ∧ Pv i σ, ⟨_, rfl, Nat.zero_le _, rfl, h0⟩, ?_⟩
  rintro i m σ' H' ⟨rfl, hl, rfl, hp⟩
  by_cases hlt : i < xs.length
  · have hd : xs[i]? = some xs[i] := List.getElem?_eq_getElem hlt
    refine .inr ⟨⟨xs, _, hx, hd⟩, fun σ2 H2 => H2 = H' ∧ Pv (i + 1) σ2, ?_, ?_⟩
    · rintro σ2 H2 ⟨rfl, p2⟩
      exact ⟨xs.length - (i + 1), by omega, rfl, hlt, rfl, p2⟩
    · rintro x H2 ⟨rfl, y⟩
      have := y xs hx
      exact ht i x σ' this hp
  · have e : i = xs.length := by omega
    subst e
    exact .inl ⟨⟨xs, hx, Nat.le_refl _⟩, he σ' hp⟩
end
end K19
set_option maxHeartbeats 4000000
/-! _law_well lays a list of three ints. -/
namespace K19
open PySem PySem.Spec PyProof.Rows L2
def spWell (K : PySem.W.Frag) : Sp := fun vs H Q _ => ∃ (a : Addr) (ns : List Int) (j : Int), vs = [.ref a, .int j, .int 146432102] ∧ SqL K H a (ns.map V.int) ∧ 0 ≤ j ∧ j < 2 ∧
  ∀ (wa : Addr) (H' : Hp) (x y z : Int), Same H H' → H wa = none → H' wa = some (.lst [.int x, .int y, .int z]) → (∀ b, b ≠ wa → H b ≠ none → H' b = H b) → Q (.ref wa) H'
theorem ints_at {ns : List Int} {i : Nat} {u : V} (h : (ns.map V.int)[i]? = some u) : ∃ m : Int, u = .int m := by
  rw [List.getElem?_map] at h
  cases e : ns[i]? with
  | none => rw [e] at h; cases h
  | some m => rw [e] at h; cases h; exact ⟨m, rfl⟩
section
variable {P : Program} {w : World} {K : PySem.W.Frag} {mg : Str → Option Value} {base : Heap}
theorem h_well (M : Md w K mg) : ∃ f fd, FnOk P w K mg base CX0 1 f fd ["_law_script", "_law_turn", "_law_start"] (spWell K) ∧ mg "_law_well" = some (.ref f) ∧ PySem.W.keepIn K (.ref f) = true ∧ Binds K fd ["_law_script", "_law_turn", "_law_start"] [] := by
  obtain ⟨f, fd, F, hm⟩ := M.fLWell
  have nd := scLWell.nd
  refine ⟨f, fd, F.ok scLWell (fun vs H Q E h => ?_) (fun cdv A outer s H vs Q E hr h => ?_), hm, F.kp, F.bindsN (fun _ _ _ _ _ _ us hl => match us, hl with | [_, _, _], _ => rfl)⟩
  · obtain ⟨a, ns, j, rfl, _⟩ := h
    rfl
  · obtain ⟨a, ns, j, rfl, hs, h0, h2, hq⟩ := h
    have fm : Fm P w K mg base nmLWell (defScope sLWell) 0 (bodyX P w K mg base nmLWell "_law_well" (defScope sLWell) f cdv A outer s H E) :=
      ⟨fun _ => rfl, fun _ => rfl, fun _ => rfl, fun _ => rfl, fun _ => rfl, fun _ => rfl, fun _ => rfl, fun _ => rfl, fun _ => hr, fun _ => rfl⟩
    refine ⟨_, (rSs_ok (bodyX P w K mg base nmLWell "_law_well" (defScope sLWell) f cdv A outer s H E) _ ()).nox, ?_⟩
    show rSs _ (defBody sLWell) _ [some (.ref a), some (.int j), some (.int 146432102), none, none, none] H
    have own : ∃ y : Int, True := ⟨0, True.intro⟩
    refine z_cons (z_set (j := 3) fm nd rfl (.inl rfl) (z_ite (z_cmp (fun _ => op_lt) rfl (z_var (j := 1) fm rfl (.inl rfl) rfl ?_))))
    refine z_cb (r := fun xs H Q => ∃ x n, xs = [x] ∧ LenV K x H n ∧ Q (.int n) H) fm (fun i => call_len) rfl M.wo.len_ boot_len (z_var (j := 0) fm rfl (.inl rfl) rfl ?_)
    refine ⟨_, _, rfl, .inl ⟨_, hs, rfl⟩, _, _, rfl, rfl, _, rfl, ?_⟩
    have step : ∀ y : Int, rSs (bodyX P w K mg base nmLWell "_law_well" (defScope sLWell) f cdv A outer s H E) ((defBody sLWell).drop 1) { nx := fun _ H' => Q .non H', rt := Q } [some (.ref a), some (.int j), some (.int 146432102), some (.int y), none, none] H := by
      intro y
      refine z_cons (z_set (j := 4) fm nd rfl (.inl rfl) (z_op (fun _ => op_add) (z_var (j := 2) fm rfl (.inl rfl) rfl (z_op (fun _ => op_mul) (z_int (z_var (j := 1) fm rfl (.inl rfl) rfl ?_))))))
      refine ⟨_, _, rfl, rfl, .inl (by omega), ⟨_, _, rfl, rfl, ?_⟩⟩
      refine z_cons (z_for (j := 5) fm nd rfl (.inl rfl) (z_sl fm (z_var (j := 0) fm rfl (.inl rfl) rfl (z_int ⟨_, rfl, _, _, rfl, hs, fun p hp => ?_⟩))))
      refine ⟨p, _, rfl, SqL.of upd_same, fun _ σ => ∃ (m : Int) (o : Option V), -(2 ^ 62) ≤ m ∧ m < 2 ^ 62 ∧ σ = [some (.ref a), some (.int j), some (.int 146432102), some (.int y), some (.int m), o], ⟨_, _, ?_, ?_, rfl⟩, ?_, ?_⟩
      · omega
      · omega
      · rintro i u σ' hu ⟨m, o, hm1, hm2, rfl⟩
        obtain ⟨z, rfl⟩ : ∃ z : Int, u = .int z := by
          have hm := List.mem_of_mem_drop (List.mem_of_mem_take (List.mem_of_getElem? hu))
          obtain ⟨z, _, rfl⟩ := List.mem_map.mp hm
          exact ⟨z, rfl⟩
        refine z_cons (z_set (j := 4) fm nd rfl (.inl rfl) (z_op (fun _ => op_mod) (z_toint fm rfl M.wo.int_ (z_op (fun _ => op_add) (z_op (fun _ => op_add) (z_op (fun _ => op_mul) (z_var (j := 4) fm rfl (.inl rfl) rfl (z_int ⟨_, _, rfl, rfl, .inl (by omega), ?_⟩))))))))
        refine z_op (fun _ => op_mod) (z_toint fm rfl M.wo.int_ (z_var (j := 5) fm rfl (.inl rfl) rfl ⟨_, rfl, z_int ⟨_, _, rfl, rfl, (by show (0 : Int) < _; omega), ⟨_, _, rfl, rfl, z_int ⟨_, _, rfl, rfl, ⟨_, rfl, z_int ⟨_, _, rfl, rfl, (by show (0 : Int) < _; omega), ?_⟩⟩⟩⟩⟩⟩))
        refine z_nil ⟨rfl, _, _, ?_, ?_, rfl⟩
        · omega
        · omega
      · rintro σ' ⟨m, o, hm1, hm2, rfl⟩
        refine z_cons (z_set (j := 4) fm nd rfl (.inl rfl) (z_op (fun _ => op_mod) (z_toint fm rfl M.wo.int_ (z_op (fun _ => op_add) (z_op (fun _ => op_add) (z_op (fun _ => op_mul) (z_var (j := 4) fm rfl (.inl rfl) rfl (z_int ⟨_, _, rfl, rfl, .inl (by omega), ?_⟩))))))))
        refine z_op (fun _ => op_mul) (z_op (fun _ => op_mod) (z_toint fm rfl M.wo.int_ (z_var (j := 3) fm rfl (.inl rfl) rfl ⟨_, rfl, z_int ⟨_, _, rfl, rfl, (by show (0 : Int) < _; omega), z_int ⟨_, _, rfl, rfl, .inr (by omega), ⟨_, _, rfl, rfl, z_int ⟨_, _, rfl, rfl, ⟨_, rfl, z_int ⟨_, _, rfl, rfl, (by show (0 : Int) < _; omega), ?_⟩⟩⟩⟩⟩⟩⟩)))
        refine z_cons (z_ret (z_lst ?_))
        have fin : ∀ x m : Int, rA (bodyX P w K mg base nmLWell "_law_well" (defScope sLWell) f cdv A outer s H E) [] [some (.ref a), some (.int j), some (.int 146432102), some (.int y), some (.int m), o] (upd H p (.lst (cutV (ns.map V.int) none (some 9)))) fun xs H1 => (V.int x :: V.int m :: V.int 0 :: xs).length ≤ sizeLine ∧ ∀ p, H1 p = none → Q (.ref p) (upd H1 p (.lst (V.int x :: V.int m :: V.int 0 :: xs))) := by
          intro x m
          refine z_A0 ⟨(by show 3 ≤ sizeLine; decide +kernel), fun wa hwa => ?_⟩
          have n1 : wa ≠ p := fun z => by
            rw [z, upd_same] at hwa
            cases hwa
          rw [upd_ne n1] at hwa
          refine hq wa _ x m 0 (fun b u e => ?_) hwa upd_same (fun b n2 e => ?_)
          · have m1 : b ≠ wa := fun z => by
              rw [z, hwa] at e
              cases e
            have m2 : b ≠ p := fun z => by
              rw [z, hp] at e
              cases e
            rw [upd_ne m1, upd_ne m2]
            exact e
          · rw [upd_ne n2, upd_ne fun z => e (by rw [z, hp])]
        refine z_A (z_ite (z_cmp (fun _ => op_ge) rfl (z_cb fm (fun _ => call_abs) rfl M.wo.abs_ boot_abs (z_var (j := 3) fm rfl (.inl rfl) rfl ⟨_, rfl, z_op (fun _ => op_pow) (z_int (z_int ⟨_, _, rfl, rfl, ⟨by decide, by decide, by decide⟩, ⟨_, _, rfl, rfl, _, rfl, ?_⟩⟩))⟩))))
        refine ifd (fun _ => ?_) (fun _ => ?_)
        · refine z_cb fm (fun _ => call_abs) rfl M.wo.abs_ boot_abs (z_var (j := 3) fm rfl (.inl rfl) rfl ⟨_, rfl, ?_⟩)
          refine z_A (z_var (j := 4) fm rfl (.inl rfl) rfl ?_)
          refine z_A (z_int ?_)
          exact fin _ _
        · refine z_int ?_
          refine z_A (z_var (j := 4) fm rfl (.inl rfl) rfl ?_)
          refine z_A (z_int ?_)
          exact fin _ _
    refine ifd (fun hlt => ?_) (fun _ => z_int (step 0))
    rw [List.length_map] at hlt
    obtain ⟨m, hm2⟩ : ∃ m : Int, ns[j.toNat]? = some m := ⟨_, List.getElem?_eq_getElem (show j.toNat < ns.length by omega)⟩
    refine z_toint fm rfl M.wo.int_ (z_ix fm (z_var (j := 0) fm rfl (.inl rfl) rfl (z_var (j := 1) fm rfl (.inl rfl) rfl ⟨_, _, _, .int m, rfl, rfl, hs, ?_, _, rfl, step m⟩)))
    have z := atI_nat (xs := ns.map V.int) (j := j.toNat) (v := .int m) (by rw [List.getElem?_map, hm2]; rfl)
    rw [Int.toNat_of_nonneg h0] at z
    exact z
end
end K19
set_option maxHeartbeats 4000000
/-! law answers True. -/
namespace K19
open PySem PySem.Spec PyProof.Rows L2
/-- the script stands, whatever came about it -/
def spLaw (K : PySem.W.Frag) : List V → Hp → VK → Prop := fun vs H Q => ∃ (a : Addr) (ns : List Int), vs = [.ref a] ∧ SqL K H a (ns.map V.int) ∧ ∀ H', Q (.bl true) H'
theorem SqL.keep {K : PySem.W.Frag} {H H' : Hp} {a : Addr} {xs : List V} (h : SqL K H a xs) (s : ∀ b, H b ≠ none → H' b = H b) : SqL K H' a xs := by
  rcases h with (z | ⟨o, z⟩) | z
  · exact .inl (.inl ((s a (by rw [z]; exact fun y => nomatch y)).trans z))
  · exact .inl (.inr ⟨o, (s a (by rw [z]; exact fun y => nomatch y)).trans z⟩)
  · exact .inr z
section
variable {P : Program} {w : World} {K : PySem.W.Frag} {mg : Str → Option Value} {base : Heap}
theorem g_law (M : Md w K mg) {f : Addr} {fd : FuncData} (F : FunD K "law" "law" (defArgs sLaw) (defBody sLaw) (defScope sLaw) [] [] f fd) (cr : CalG P w K mg base 10 "_law_right" ["_law_well_here"] spRight) :
    FnG P w K mg base 11 f fd ["_law_script"] (spLaw K) := by
  obtain ⟨g1, gd1, F1, m1, k1, b1⟩ := h_well (P := P) (base := base) M
  obtain ⟨g2, gd2, F2, m2, k2, b2⟩ := cr.ex
  have nd := scLaw.nd
  refine FnG.of F scLaw (fun vs H Q h => ?_) (fun cdv A outer s H vs Q hr gd h => ?_)
  · obtain ⟨a, ns, rfl, _⟩ := h
    rfl
  · obtain ⟨a, ns, rfl, hs, hq⟩ := h
    have fm : Fm P w K mg base nmLaw (defScope sLaw) 10 (bodyX P w K mg base nmLaw "law" (defScope sLaw) f cdv A outer s H fun _ _ _ => False) :=
      ⟨fun _ => rfl, fun _ => rfl, fun _ => rfl, fun _ => rfl, fun _ => rfl, fun _ => rfl, fun _ => rfl, fun _ => rfl, fun _ => hr, fun _ => rfl⟩
    refine ⟨_, rSs_ok (bodyX P w K mg base nmLaw "law" (defScope sLaw) f cdv A outer s H fun _ _ _ => False) _ (), ?_⟩
    refine z_cons (z_ret (z_cb (r := rAll K) fm (fun i => cr_all rfl) rfl M.wo.all_ boot_all ?_))
    refine z_lc (own := [("_law_turn", 1)]) fm nd (blkOk_by (by decide +kernel)) (z_rng fm rfl M.wo.range_ (z_int ⟨_, rfl, by omega, by omega, fun D hD => ?_⟩))
    refine ⟨fun i m H' => m = 2 - i ∧ i ≤ 2 ∧ (∀ b, H b ≠ none → H' b = H b) ∧ H' D = some (.lst (List.replicate i (.bl true))), ⟨2, rfl, by omega, fun b n1 => upd_ne fun z => n1 (by rw [z, hD]), upd_same⟩, ?_⟩
    rintro i m H' ⟨rfl, hi, hk, hD'⟩
    by_cases hlt : i < 2
    · refine .inr ⟨hlt, fun H2 => (∀ b, H b ≠ none → H2 b = H b) ∧ H2 D = some (.lst (List.replicate (i + 1) (.bl true))), fun H2 ⟨z1, z2⟩ => ⟨2 - (i + 1), by omega, rfl, hlt, z1, z2⟩, ?_⟩
      rintro x H2 ⟨rfl, rfl⟩
      refine z_gn (j := 1) (fm.blk _) nd rfl (.inl rfl) ⟨rfl, z_tn ?_⟩
      rw [if_pos rfl]
      refine z_callG (fm.blk _) (fun _ => gd) F2 (by omega) rfl m2 k2 b2 (z_A ?_)
      refine z_call (fm.blk _) F1 (by omega) rfl m1 k1 b1 (z_A (z_var (j := 0) (fm.blk _) rfl (.inr (.inl rfl)) rfl (z_A (z_var (j := 1) (fm.blk _) rfl (.inl rfl) rfl (z_A (z_int (z_A0 ?_)))))))
      refine ⟨a, ns, 0 + (i : Int), rfl, SqL.keep hs hk, by omega, by omega, fun wa H3 x y z sm nw ew kp => z_A0 ?_⟩
      refine ⟨wa, H2, [wel], fun d => d = .bool true, ⟨sm, nw, _, _, _, ew⟩, .cons (.inr (.inl ⟨rfl, rfl⟩)) .nil, ⟨rfl, rfl⟩, fun v d G4 H4 le r e => ?_⟩
      subst e
      obtain rfl := rp_bool r
      have nD : D ≠ wa := fun z => by
        rw [z, nw] at hD'
        cases hD'
      have e3 : H3 D = H2 D := kp D nD (by rw [hD']; exact fun z => nomatch z)
      have e4 : H4 D = H3 D := le.fr D nD (by rw [e3, hD']; exact fun z => nomatch z)
      refine ⟨_, (e4.trans e3).trans hD', ?_, fun b n1 => ?_, ?_⟩
      · rw [List.length_replicate]
        exact Nat.lt_of_lt_of_le hlt (by decide +kernel)
      · have n2 : b ≠ D := fun z => n1 (by rw [z, hD])
        have n3 : H2 b ≠ none := by
          rw [hk b n1]
          exact n1
        have n4 : b ≠ wa := fun z => n3 (by rw [z, nw])
        have n5 : H3 b = H2 b := kp b n4 n3
        rw [upd_ne n2, le.fr b n4 (by rw [n5]; exact n3), n5, hk b n1]
      · rw [upd_same, List.replicate_succ']
    · have e : i = 2 := by omega
      subst e
      exact .inl ⟨Nat.le_refl 2, D, [true, true], rfl, SqL.of hD', hq _⟩
end
end K19
set_option maxHeartbeats 4000000
/-! The law's call at the heap behind the top, for a promise that knows the guards. -/
namespace K19
open PySem PySem.Spec PyProof.Rows L2
/-- how the law's call ends -/
def Ended (s1 : Shared) (r : Result) (s : Shared) : Prop := r = .ok (.ret (.bool true)) ∧ OldK s1.heap s.heap ∧ s.os = s1.os ∧ AllBare s.gens
/-- the list object of the script -/
abbrev scriptO (vs : List Value) : Obj := { cls := .type "list", data := .seq vs.toArray }
section
variable {P : Program} {w : World} {K : PySem.W.Frag} {mg mb : Str → Option Value} {k : Nat} {fa a : Addr} {fd : FuncData} {x : Str} {sp : List V → Hp → VK → Prop} {s1 : Shared} {vs : List Value} {nums : List Int} {H : Hp}
/-- H tracks the script's list at most, frozen, and not as a part of K -/
def Few1 (K : PySem.W.Frag) (a : Addr) (H : Hp) : Prop := ∀ b u, H b = some u → b = a ∧ K.lookup b = none ∧ ∃ o l, u = .frz o (.lst l)
theorem Few1.off (z : Few1 K a H) (ha : s1.heap.get? a = some (scriptO vs)) {b : Addr} {o : Obj} (e : s1.heap.get? b = some o) (h : o ≠ scriptO vs) : H b = none := by
  cases q : H b with
  | none => rfl
  | some u =>
    obtain ⟨rfl, _⟩ := z b u q
    rw [ha] at e
    exact absurd (Option.some.inj e).symm h
theorem Few1.ns (z : Few1 K a H) (ha : s1.heap.get? a = some (scriptO vs)) {b : Addr} {m : Str → Option Value} (h : s1.heap.Ns b m) : (hidT s1.heap H).Ns b m := by
  obtain ⟨o, es, ep, e, d, r⟩ := h
  exact ⟨o, es, ep, hidT_get e (z.off ha e fun y => by rw [y] at d; exact nomatch d), d, r⟩
theorem call_few (KX : K.In s1.heap) (hns : s1.heap.Ns mainGlobals mg) (hb : s1.heap.Ns builtinsNs mb) (hbb : ∀ y : Str, y ≠ "__name__" → mb y = bootBuiltins y) (hlim : s1.heap.NoLimit) (hg : s1.gens = #[]) (ha : s1.heap.get? a = some (scriptO vs))
    (hr : Room k callerA) (z : Few1 K a H) (hok : HOk P w H s1.heap) (F : ∀ base : Heap, K.In base → base.Ns mainGlobals mg → FnG P w K mg base k fa fd [x] sp) (hbind : BindsTo s1 fd ⟨[.ref a], []⟩ [(x, .ref a)])
    (h : sp [.ref a] H fun v _ => v = .bl true) : codeAny (model P w) callerA (.call (.ref fa) ⟨[.ref a], []⟩) (Ended s1) s1 := by
  have kb : K.In (hidT s1.heap H) := fun b o e => hidT_get (KX b o e) (by
    cases q : H b with
    | none => rfl
    | some u =>
      obtain ⟨_, n, _⟩ := z b u q
      rw [e] at n
      cases n)
  obtain ⟨mc, c1, c2⟩ := hlim
  have md : Mod K mg (hidT s1.heap H) := { kin := kb, glob := z.ns ha hns, blt := ⟨mb, z.ns ha hb, hbb⟩, nolimit := ⟨mc, z.ns ha c1, c2⟩ }
  have en : Env0 P w K mg (hidT s1.heap H) callerA [] s1 H := { frames := rfl, mod := md, bs := fun _ _ e => of_hidT e, bsz := Nat.le_of_eq (hidT_size _ _), funs := trivial, frf := fun _ m => (List.not_mem_nil m).elim, hok := hok, bare := .of_eq hg }
  refine codeAny_mono ((F _ kb (z.ns ha hns)).run callerA [] s1 H ⟨[.ref a], []⟩ [.ref a] [.ref a] _ hr rfl en hbind (.cons rfl .nil) h) ?_
  intro r s2 q
  cases r with
  | error y => exact q.elim
  | ok fl =>
    cases fl with
    | ret y =>
      obtain ⟨v, G, os, bare, un, _, rv, ev⟩ := q
      have ev2 : v = .bl true := ev
      subst ev2
      have ey : y = Value.bool true := rv
      subst ey
      refine ⟨rfl, OldK.of_keep fun b o e => ?_, os, bare⟩
      cases t : H b with
      | none => exact un.keep b o e t (fun m => (List.not_mem_nil m).elim) fun m => (List.not_mem_nil m).elim
      | some u =>
        obtain ⟨_, _, ob, l, rfl⟩ := z b u t
        have o1 : s1.heap.get? b = some ob := (hok b _ t).1
        rw [e] at o1
        obtain rfl := Option.some.inj o1
        exact (‹HOk P w G s2.heap› b _ (un.frzs b _ _ t)).1
    | next => exact q.elim
    | brk => exact q.elim
    | cont => exact q.elim
theorem vals_of_ints {us : List Value} {is : List Int} (h : IntsAre us is) : Vals (is.map V.int) us := by
  induction h with
  | nil => exact .nil
  | cons n t _ ih => exact .cons ⟨t, rfl⟩ ih
theorem call_law (KX : K.In s1.heap) (hns : s1.heap.Ns mainGlobals mg) (hb : s1.heap.Ns builtinsNs mb) (hbb : ∀ y : Str, y ≠ "__name__" → mb y = bootBuiltins y) (hlim : s1.heap.NoLimit) (hg : s1.gens = #[]) (ha : s1.heap.get? a = some (scriptO vs))
    (hi : IntsAre vs nums) (hl : nums.length ≤ sizeLine) (hr : Room k callerA) (F : ∀ base : Heap, K.In base → base.Ns mainGlobals mg → FnG P w K mg base k fa fd [x] sp) (hbind : BindsTo s1 fd ⟨[.ref a], []⟩ [(x, .ref a)])
    (h : ∀ H : Hp, SqL K H a (nums.map V.int) → sp [.ref a] H fun v _ => v = .bl true) : codeAny (model P w) callerA (.call (.ref fa) ⟨[.ref a], []⟩) (Ended s1) s1 := by
  have rv := vals_of_ints hi
  cases e : K.lookup a with
  | some o =>
    have e2 := (KX a o e).symm.trans ha
    obtain rfl := Option.some.inj e2
    have sz : vs.toArray.size ≤ sizeLine := by
      have z := rv.length
      rw [List.length_map] at z
      rw [List.size_toArray]
      omega
    refine call_few (H := fun _ => none) KX hns hb hbb hlim hg ha hr (fun b u y => nomatch y) (fun b u y => nomatch y) F hbind (h _ (.inr ⟨_, _, _, e, rfl, rfl, rfl, sz, ?_⟩))
    exact rv
  | none =>
    refine call_few (H := upd (fun _ => none) a (.frz (scriptO vs) (.lst (nums.map V.int)))) KX hns hb hbb hlim hg ha hr (fun b u y => ?_) (fun b u y => ?_) F hbind (h _ (.inl (.inr ⟨_, upd_same⟩)))
    all_goals
      by_cases hba : b = a
      · subst hba
        rw [upd_same] at y
        obtain rfl := Option.some.inj y
        first
          | exact ⟨rfl, e, _, _, rfl⟩
          | exact ⟨ha, by rw [List.length_map]; exact hl, vs, _, rv, ha⟩
      · rw [upd_ne hba] at y
        cases y
end
end K19
set_option maxHeartbeats 4000000
/-! The head's facts, told as Md and Co (printed by gen_facts.py). -/
namespace K19
open PySem PySem.Spec PyProof.Rows L2
section
variable {w : World} {K : PySem.W.Frag} {h : Heap} {mg : Str → Option Value}
theorem fact_def (X : K.In h) (G : h.Ns mainGlobals mg) (c : He.SaysX fa fn ts [] exB w h K) (i : Nat) {x : Str} {st : Stmt} (h1 : fn[i]? = some ⟨(x, none), x, x, defArgs st, defBody st, defScope st, [], []⟩) (h2 : fa[i]? = some (.glo x)) :
    ∃ f fd, FunD K x x (defArgs st) (defBody st) (defScope st) [] [] f fd ∧ mg x = some (.ref f) := by
  obtain ⟨fd, F⟩ := c.t.d.def_ i h1
  exact ⟨_, fd, F, He.glo_ok X G (c.t.d.fact i h2)⟩
theorem fact_free (X : K.In h) (G : h.Ns mainGlobals mg) (c : He.SaysX fa fn ts [] exB w h K) (i : Nat) {x : Str} (h2 : fa[i]? = some (.free x)) : mg x = none := He.free_ok X G (c.t.d.fact i h2)
theorem fact_glo (X : K.In h) (G : h.Ns mainGlobals mg) (c : He.SaysX fa fn ts [] exB w h K) (i : Nat) {x : Str} (h2 : fa[i]? = some (.glo x)) : mg x = some (.ref (He.ga K x)) := He.glo_ok X G (c.t.d.fact i h2)
theorem facts_wo (X : K.In h) (G : h.Ns mainGlobals mg) (c : He.SaysX fa fn ts [] exB w h K) : Wo w K mg where
  abs_ := fact_free X G c 64 rfl
  all_ := fact_free X G c 65 rfl
  any_ := fact_free X G c 66 rfl
  bool_ := fact_free X G c 67 rfl
  enumerate_ := fact_free X G c 68 rfl
  int_ := fact_free X G c 69 rfl
  isinstance_ := fact_free X G c 70 rfl
  len_ := fact_free X G c 71 rfl
  list_ := fact_free X G c 72 rfl
  max_ := fact_free X G c 73 rfl
  min_ := fact_free X G c 74 rfl
  range_ := fact_free X G c 75 rfl
  repr_ := fact_free X G c 76 rfl
  str_ := fact_free X G c 77 rfl
  sum_ := fact_free X G c 78 rfl
  tuple_ := fact_free X G c 79 rfl
  zip_ := fact_free X G c 80 rfl
theorem facts_md (X : K.In h) (G : h.Ns mainGlobals mg) (c : He.SaysX fa fn ts [] exB w h K) : Md w K mg where
  wo := facts_wo X G c
  fIsWhole := fact_def X G c 0 rfl rfl
  fIsBetween := fact_def X G c 1 rfl rfl
  fFieldsBy := fact_def X G c 2 rfl rfl
  fIsField := fact_def X G c 3 rfl rfl
  fIsRowBy := fact_def X G c 4 rfl rfl
  fWrongInSieve := fact_def X G c 5 rfl rfl
  fCheckSieve := fact_def X G c 6 rfl rfl
  fAimOf := fact_def X G c 7 rfl rfl
  fLoopsBy := fact_def X G c 8 rfl rfl
  fDoCross := fact_def X G c 9 rfl rfl
  fBackFlaw := fact_def X G c 10 rfl rfl
  fFlawOf := fact_def X G c 11 rfl rfl
  fFlawsBy := fact_def X G c 12 rfl rfl
  fTimesOf := fact_def X G c 13 rfl rfl
  fBoundBy := fact_def X G c 14 rfl rfl
  fFlaws := fact_def X G c 15 rfl rfl
  fStepsBound := fact_def X G c 16 rfl rfl
  fLWell := fact_def X G c 17 rfl rfl
  fLDraw := fact_def X G c 18 rfl rfl
  fLPick := fact_def X G c 19 rfl rfl
  fLPlain := fact_def X G c 20 rfl rfl
  fLPut := fact_def X G c 21 rfl rfl
  fLOps := fact_def X G c 22 rfl rfl
  fLTableOf := fact_def X G c 23 rfl rfl
  fLIsServed := fact_def X G c 24 rfl rfl
  fLLoop := fact_def X G c 25 rfl rfl
  fLAgains := fact_def X G c 26 rfl rfl
  fLIsCrossed := fact_def X G c 27 rfl rfl
  fLFlaw := fact_def X G c 28 rfl rfl
  fLFlaws := fact_def X G c 29 rfl rfl
  fLBound := fact_def X G c 30 rfl rfl
  fLHolds := fact_def X G c 31 rfl rfl
  fLFault := fact_def X G c 32 rfl rfl
  fLFound := fact_def X G c 33 rfl rfl
  fLTablesBehind := fact_def X G c 34 rfl rfl
  fLGoing := fact_def X G c 35 rfl rfl
  fLStep := fact_def X G c 36 rfl rfl
  fLBegun := fact_def X G c 37 rfl rfl
  fLWords := fact_def X G c 38 rfl rfl
  fLBytes := fact_def X G c 39 rfl rfl
  fLCells := fact_def X G c 40 rfl rfl
  fLKinds := fact_def X G c 41 rfl rfl
  fLGrant := fact_def X G c 42 rfl rfl
  fLFitting := fact_def X G c 43 rfl rfl
  fLGuarded := fact_def X G c 44 rfl rfl
  fLMasked := fact_def X G c 45 rfl rfl
  fLBelow := fact_def X G c 46 rfl rfl
  fLOnCells := fact_def X G c 47 rfl rfl
  fLOnPairs := fact_def X G c 48 rfl rfl
  fLSomeRows := fact_def X G c 49 rfl rfl
  fLPiece := fact_def X G c 50 rfl rfl
  fLSieve := fact_def X G c 51 rfl rfl
  fLPutIn := fact_def X G c 52 rfl rfl
  fLRight := fact_def X G c 53 rfl rfl
  fLaw := fact_def X G c 54 rfl rfl
theorem facts_co (X : K.In h) (G : h.Ns mainGlobals mg) (c : He.SaysX fa fn ts [] exB w h K) : Co w K mg := by
  have e := c.more
  unfold exB at e
  obtain ⟨e, hMOSTS⟩ := He.ba e
  obtain ⟨e, hFIELDS⟩ := He.ba e
  obtain ⟨e, hNAMED⟩ := He.ba e
  obtain ⟨e, hASKED⟩ := He.ba e
  obtain ⟨e, hCONDITIONS⟩ := He.ba e
  obtain ⟨e, hSHIFTED⟩ := He.ba e
  have hOPS := e
  have gOPS := fact_glo X G c (x := "OPS") 55 rfl
  have gSHIFTED := fact_glo X G c (x := "SHIFTED") 56 rfl
  have gCONDITIONS := fact_glo X G c (x := "CONDITIONS") 57 rfl
  have gASKED := fact_glo X G c (x := "ASKED") 58 rfl
  have gNAMED := fact_glo X G c (x := "NAMED") 59 rfl
  have gFIELDS := fact_glo X G c (x := "FIELDS") 60 rfl
  obtain ⟨es0, n0, d0⟩ := c.t.tab 0
  have gMOSTS := fact_glo X G c (x := "MOSTS") 61 rfl
  obtain ⟨es1, n1, d1⟩ := c.t.tab 1
  refine ⟨⟨_, gOPS, fun H => He.tupB_ok hOPS H⟩, ⟨_, gSHIFTED, fun H => He.tupB_ok hSHIFTED H⟩, ⟨_, gCONDITIONS, fun H => He.tupB_ok hCONDITIONS H⟩, ⟨_, gASKED, fun H => He.tupB_ok hASKED H⟩, ⟨_, gNAMED, fun H => He.tupB_ok hNAMED H⟩, He.int_ok X G (c.t.d.fact 63 rfl), ⟨_, es0, n0, gFIELDS, d0.at_, d0.low, fun q hq => ?_⟩, ⟨_, gMOSTS, fun q hq => ?_⟩⟩
  · obtain ⟨u, h1, h2⟩ := He.valsB_ok hFIELDS (q := (q.1, .str q.2)) (List.mem_map_of_mem (f := fun q : Str × Str => (q.1, He.Dv.str q.2)) hq)
    exact ⟨es0, n0, u, d0.at_, d0.lit, h1, h2⟩
  · obtain ⟨u, h1, h2⟩ := He.valsB_ok hMOSTS (q := (q.1, .int q.2)) (List.mem_map_of_mem (f := fun q : Str × Int => (q.1, He.Dv.int q.2)) hq)
    exact ⟨es1, n1, u, d1.at_, d1.lit, h1, h2⟩
end
end K19
set_option maxHeartbeats 4000000
/-! All promises, one behind the other. -/
namespace K19
open PySem PySem.Spec PyProof.Rows L2
theorem all_law {P : Program} {w : World} {K : PySem.W.Frag} {mg : Str → Option Value} {base : Heap} {f : Addr} {fd : FuncData} (M : Md w K mg) (C : Co w K mg) (F : FunD K "law" "law" (defArgs sLaw) (defBody sLaw) (defScope sLaw) [] [] f fd) :
    FnG P w K mg base 11 f fd ["_law_script"] (spLaw K) := by
  have cput := c_put (P := P) (base := base) M
  have cops := c_ops (P := P) (base := base) M
  have cdraw := c_draw (P := P) (base := base) M
  have cpick := c_pick M cdraw
  have cwords := c_words M cdraw cpick
  have cbytes := c_bytes M cdraw cpick
  have ccells := c_cells M cdraw cwords
  have ckinds := c_kinds M cpick
  have cgrant := c_grant M cdraw cpick ckinds
  have cbegun := c_begun (P := P) (base := base) M
  have cfitting := c_fitting M cdraw cpick cbytes ccells cbegun
  have cguarded := c_guarded M cdraw cpick
  have cmasked := c_masked M cdraw cpick
  have cbelow := c_below M cdraw
  have conpairs := c_on_pairs M cdraw cpick
  have concells := c_on_cells M cdraw cpick
  have csome := c_some_rows M cdraw cpick cwords
  have cpiece := c_piece3 M cdraw cguarded cmasked cbelow concells conpairs csome
  have csieve := c_sieve M cdraw cpiece
  have cputin := c_put_in M cdraw cpick cput
  have cplain := c_plain (P := P) (base := base) M
  have ctable := c_table_of (P := P) (base := base) M
  have cserved := c_is_served M ctable
  have cholds := c_holds (P := P) (base := base) M
  have cfault := c_fault M ctable cserved
  have cfound := c_found M cops cplain
  have cgoing := c_going M cput cholds
  have cbehind := c_behind M ctable cput
  have cstep := c_step M cput cfault cgoing cfound cbehind
  have cloop := c_loop (P := P) (base := base) M
  have cagains := c_agains (P := P) (base := base) M
  have ccrossed := c_is_crossed M cloop cagains
  have clflaw := c_lflaw M cloop ccrossed
  have clflaws := c_lflaws M clflaw
  have clbound := c_lbound M cloop cagains
  have cwhole := c_is_whole (P := P) (base := base) M
  have cbetween := c_is_between M cwhole
  have cfields := c_fields_by (P := P) (base := base) M C
  have cfield := c_is_field M C cbetween
  have crow := c_is_row_by M cfields cfield
  have cwrong := c_wrong M C crow
  have ccheck := c_check M cwrong
  have cloops := c_loops_by (P := P) (base := base) M
  have ccross := c_do_cross (P := P) (base := base) M
  have caim := c_aim (P := P) (base := base) M
  have cback := c_back_flaw M cloops ccross
  have cflawof := c_flaw_of M caim cback
  have cflawsby := c_flaws_by M cflawof
  have ctimes := c_times_of (P := P) (base := base) M
  have cboundby := c_bound_by M cflawsby cloops ctimes
  exact g_law M F (g_right M cgrant csieve clflaws clbound (c_flaws M ccheck cflawsby) (c_steps_bound M ccheck cboundby) (k_flaws M ccheck cflawsby) (k_steps_bound M ccheck cboundby) cfitting cstep cputin)
end K19
set_option maxHeartbeats 0
/-! The join. -/
namespace K19
open PySem PySem.Spec PyProof.Rows L2
theorem binds_law {K : PySem.W.Frag} {f : Addr} {fd : FuncData} (F : FunD K "law" "law" (defArgs sLaw) (defBody sLaw) (defScope sLaw) [] [] f fd) (s : Shared) (u : Value) : BindsTo s fd ⟨[u], []⟩ [("_law_script", u)] :=
  FunD.bindsA (ps := ["_law_script"]) F (fun _ _ _ _ _ _ us hl => match us, hl with | [_], _ => rfl) s [u] rfl
theorem the_walk {l : PySem.W.OpenLaw} {q : Program} {loose : List Str} {XP : (Str → Option Value) → Heap → Prop} {d : DefRec} (hn : l.most = some 63) (hdf : d.params.defaults = []) (hd : d.name = ("law" : Str)) :
    PySem.W.WalkO q loose XP hk.says l.row.toRowW d [] (fun f vs => PySem.call f vs) := by
  refine Att.attach_call hn hdf fun w s0 s1 mg mb g o pm cd doc a vs ns G Y ho hdt hcd hmg hobj hints hlen hg => ?_
  obtain ⟨K, X, c⟩ := Y
  have M := facts_md X G.T.g c
  have C := facts_co X G.T.g c
  obtain ⟨f, fd, F, hm⟩ := M.fLaw
  have e : f = g := by
    rw [hd, hm] at hmg
    cases hmg
    rfl
  subst e
  exact call_law X G.T.g G.T.b G.T.builtins G.T.nolimit hg hobj hints (Nat.le_trans hlen (by decide)) ⟨rfl, by decide, by decide⟩ (fun base _ _ => all_law M C F) (binds_law F s1 _) fun H hS => ⟨a, ns, rfl, hS, fun _ => rfl⟩
end K19
open PySem PySem.W PySem.Calls PyProof.Rows
theorem PySem.Challenge.cw_suresieves_k19_whole_flaws_and_bounds_holds : PySem.Challenge.rw_suresieves_k19_whole_flaws_and_bounds.Holds := by
  exact K19.head_ok (K19.the_walk (l := PySem.Challenge.rw_suresieves_k19_whole_flaws_and_bounds) rfl K19.law_args K19.law_name)
