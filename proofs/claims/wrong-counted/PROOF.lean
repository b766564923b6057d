import PyProof.Rows.All
import Wide.All
import OpenK.AllK
import Wide.FinOn
import KE.KStateDown
import PyProof.EqAt
import PyProof.EqKinds
import PyProof.TupleCall
import HandS.ForMost
import HandS.ForExc
import HandS.Flow
import HandS.Style
import HandS.Conv
import HandS.Wide
import HandS.WideBits
import HandS.IsInst
import HandS.Strs
import HandS.Star
import HandS.Zip
import HandS.CallLocal
import HandS.TryMany
import HandS.ExcSuper
import HandS.ExcField
import HandS.ExcIs
import HandS.RaiseMore
import HandS.Small
import HandS.More
import HandS.Defaults
import HandS.GenList
import HandS.Head0
import HandS.Head1
import HandS.Head2
import HandS.HeadEnd
import HandS.HeadHook1
import HandS.HeadHook2
import KE.KExcInit
import PyProof.RulesMatch
import PyProof.TypeEq
import PyProof.InstEq
import HandS.GenCall
import HandS.GenBody
import HandS.SetIn
import KE.KExcSuper
import KE.KExcIs
import PySem.Challenge.RW_numbertexts_k45_whole_wrong_numbers_coun
set_option Elab.async false
set_option linter.all false
set_option maxRecDepth 100000
set_option maxHeartbeats 8000000
/-! ## KB -/
namespace K45
open PySem PySem.Spec PyProof.Rows L2
/-! ### the text by places -/
def top (i : Nat) : Stmt := PySem.Challenge.pw_numbertexts_k45_whole_wrong_numbers_coun.main.body.getD i (.Pass ⟨0, 0, 0, 0⟩)
abbrev s_is_whole : Stmt := top 1
abbrev s_ten : Stmt := top 3
abbrev s_power_fraction : Stmt := top 5
abbrev s_shifted : Stmt := top 6
abbrev s_floor_log : Stmt := top 7
abbrev s_half_of : Stmt := top 14
abbrev s_count_of : Stmt := top 15
abbrev s_run_slope : Stmt := top 19
abbrev s_top_slope : Stmt := top 20
abbrev s_is_above : Stmt := top 21
abbrev s_exponent_of : Stmt := top 22
abbrev s_start_of : Stmt := top 23
abbrev s_cuts_of : Stmt := top 24
abbrev s_pieces : Stmt := top 25
abbrev s_position_line : Stmt := top 26
abbrev s_read_stair : Stmt := top 27
abbrev s_up_stair : Stmt := top 28
abbrev s_half_stair : Stmt := top 29
abbrev s_below_half_stair : Stmt := top 30
abbrev s_beyond_code : Stmt := top 31
abbrev s_stair_on : Stmt := top 32
abbrev s_pairs : Stmt := top 33
abbrev s_value_at : Stmt := top 36
abbrev s_first_turn : Stmt := top 37
abbrev s_next_turn : Stmt := top 38
abbrev s_sum_of_turn : Stmt := top 39
abbrev s_sum_rows : Stmt := top 40
abbrev s_sum_of : Stmt := top 41
abbrev s_sum_of_stair : Stmt := top 43
abbrev s_is_sound : Stmt := top 45
abbrev s_check_sound : Stmt := top 46
abbrev s_run_kind : Stmt := top 47
abbrev s_wrong_pairs : Stmt := top 49
abbrev s_wrong_steps : Stmt := top 50
abbrev s_steps_between : Stmt := top 51
abbrev s_count_in : Stmt := top 52
abbrev s_place_in : Stmt := top 53
abbrev s_at_in : Stmt := top 54
abbrev s_check_fine : Stmt := top 55
abbrev s_count_wrong : Stmt := top 56
abbrev s_wrong_at : Stmt := top 57
abbrev s_law_deck : Stmt := top 59
abbrev s_law_draw : Stmt := top 60
abbrev s_law_pick : Stmt := top 61
abbrev s_law_whole : Stmt := top 62
abbrev s_law_ten : Stmt := top 63
abbrev s_law_cut : Stmt := top 64
abbrev s_law_slope : Stmt := top 65
abbrev s_law_values : Stmt := top 66
abbrev s_law_told : Stmt := top 67
abbrev s_law_codes : Stmt := top 68
abbrev s_law_form : Stmt := top 69
abbrev s_law_power : Stmt := top 70
abbrev s_law_row : Stmt := top 71
abbrev s_law_sound : Stmt := top 72
abbrev s_law_ways : Stmt := top 73
abbrev s_law_wrong : Stmt := top 74
abbrev s_law_indexes : Stmt := top 75
abbrev s_law_count : Stmt := top 76
abbrev s_law_at : Stmt := top 77
abbrev s_law_right : Stmt := top 78
abbrev s_law : Stmt := top 79
/-! ### defs by name -/
abbrev FnP (K : PySem.W.Frag) (x : Str) (st : Stmt) (f : Addr) (fd : FuncData) : Prop := FunD K x x (defArgs st) (defBody st) (defScope st) [] [] f fd
/-- a def that stands under its name -/
structure DefAt (K : PySem.W.Frag) (mg : Str → Option Value) (x : Str) (st : Stmt) : Prop where
  ex : ∃ (f : Addr) (fd : FuncData), FnP K x st f fd ∧ mg x = some (.ref f)
/-- its parameters are bound by place -/
def BindOk (x : Str) (st : Stmt) (ps : List Str) : Prop := ∀ (kV doc pm : Value) (an : Option Addr) (cdv ct : Value) (us : List Value), us.length = ps.length → bindArgs (PySem.W.fnOf x x (defArgs st) (defBody st) (defScope st) .none kV doc pm an cdv ct) ⟨us, []⟩ = pure (ps.zip us)
/-- a def that may be called by its name -/
structure Cl (P : Program) (w : World) (K : PySem.W.Frag) (mg : Str → Option Value) (base : Heap) (CX : CXT) (k : Nat) (x : Str) (sp : Sp) : Prop where
  ex : ∃ (f : Addr) (fd : FuncData) (ps : List Str), FnOk P w K mg base CX k f fd ps sp ∧ mg x = some (.ref f) ∧ PySem.W.keepIn K (.ref f) = true ∧ Binds K fd ps []
section
variable {P : Program} {w : World} {K : PySem.W.Frag} {mg : Str → Option Value} {base : Heap}
theorem cl_of {CX : CXT} {x : Str} {st : Stmt} {N ps : List Str} {k : Nat} {sp : Sp} (D : DefAt K mg x st) (B : BindOk x st ps) (S : FnScope N ps (defScope st)) (len : ∀ vs H Q E, sp vs H Q E → vs.length = ps.length)
    (hbody : ∀ (f : Addr) (cdv : Value) (A : Around) (outer : List Env) (s : Shared) (H : Hp) (vs : List V) (Q : VK) (E : XK), Room k (A.deeper (envOfC x (defScope st) s.heap.objs.size f cdv)) → sp vs H Q E →
      ∃ t, PSs (cxOf CX P w K mg base N x (defScope st) f cdv A outer s H E) (defBody st) t ∧ t { nx := fun _ H' => Q .non H', rt := Q } (start N vs) H) : Cl P w K mg base CX (k + 1) x sp := by
  obtain ⟨f, fd, F, hm⟩ := D.ex
  exact ⟨f, fd, ps, F.ok S len (fun cdv A outer s H vs Q E hr h => hbody f cdv A outer s H vs Q E hr h), hm, F.kp, F.bindsN B⟩
end
section
variable {X : Cx} {k j : Nat} {x : Str} {sp : Sp} {CX : CXT} {E : XK} {p pos : Pos} {e : Expr} {es : List Expr} {t : TA}
theorem pe_cl (c : Cl X.prog X.w X.K X.mg X.base CX k x sp) (hr : Room j X.A) (hk : k ≤ j) (hx : Passes CX X E) (ha : PA X (e :: es) t) (hg : Gl X x := by rfl)
    (hdb : (x == ("__debug__" : Str)) = false := by decide) (he : starEach (e :: es) X.env = (false, eval e X.env) :: starEach es X.env := by rfl) (hpl : (backTo pos (starEach es X.env)).any (·.1) = false := by rfl) :
    PE X (.Call (.Name x p) (e :: es) [] pos) (tCall sp [] E t) := by
  obtain ⟨f, fd, ps, F, hm, kp, b⟩ := c.ex
  exact pe_call F (hr.mono hk) hg hm kp b .nil hx ha hdb he hpl
end
/-! ### small readings -/
theorem same_of_upd {H : Hp} {p : Addr} {o : HO} (h : H p = none) : Same H (upd H p o) := fun b u e => by rw [upd_ne (ne_of_none e h)]; exact e
/-- what an int's bound says -/
def Sm (z : Int) : Prop := -(2 ^ 64) < z ∧ z < 2 ^ 64
end K45
/-! ## HA -/
namespace K45
open PySem PySem.Spec PySem.W PySem.Calls PyProof.Rows L2
/-! ### the head: what is looked at behind the top, and the run -/
abbrev veT : List Value := [.type "ValueError", .type "Exception", .type "BaseException", .type "object"]
abbrev leT : List Value := [.type "LookupError", .type "Exception", .type "BaseException", .type "object"]
def xA (fld : Str) (p1 p2 : Pos) : Arguments := { posonlyargs := [], args := [{ arg := "self", annotation := none, pos := p1 }, { arg := fld, annotation := none, pos := p2 }], vararg := none, kwonlyargs := [], kw_defaults := [], kwarg := none, defaults := [] }
def xB (fld : Str) (q1 q2 q3 q4 q5 q6 q7 q8 q9 q10 : Pos) : List Stmt :=
  [.Expr (.Call (.Attribute (.Call (.Name "super" q1) [] [] q2) "__init__" q3) [.Name fld q4] [] q5) q6, .Assign [.Attribute (.Name "self" q7) fld q8] (.Name fld q9) q10]
def xS (fld : Str) : Scope := { kind := .function, names := [("self", .local), (fld, .local), ("__class__", .free), ("super", .globalImplicit)], isGenerator := false, isCoroutine := false, more := [] }
/-- the __init__ of the class of that name, as data -/
abbrev IniD : Type := Option (Str × Str × Arguments × FuncBody × Scope × Addr × Addr)
def iniA (K : Frag) (nm : Str) : Addr := He.ma K (He.ga K nm) "__init__"
def iniO (K : Frag) (nm : Str) : IniD := match K.lookup (iniA K nm) with
  | some ⟨_, _, .func fd, _⟩ => some (fd.name, fd.qualname, fd.params, fd.body, fd.scope, fd.globals, fd.builtins)
  | _ => none
/-- what a look tells of its function object besides -/
def iniB (file : Str) (K : Frag) (nm : Str) : Bool := match K.lookup (iniA K nm) with
  | some ⟨_, _, .func fd, _⟩ => (match fd.closure, fd.code, fd.defaults, fd.kwdefaults with
    | [(n, cc)], .ref cda, .none, .none => decide (n = "__class__") && (codeIn K (.ref cda) fd.qualname && ((match K.lookup cda with
        | some ⟨_, _, .fields vs, _⟩ => (match (vs[2]? : Option Value) with
          | some (.str fl _) => file == fl
          | _ => false)
        | _ => false) && (match K.lookup cc with
        | some ⟨_, _, .cell (some (.ref C)), _⟩ => decide (C = He.ga K nm)
        | _ => false)))
    | _, _, _, _ => false)
  | _ => false
/-- .. and of the class -/
def clsB (K : Frag) (nm fld : Str) (B newId initId : String) (tl : List Value) : Bool :=
  (He.eqO (nsIn K mainGlobals nm) (some (some (.ref (He.ga K nm)))) && excInitIn K (He.ga K nm) tl newId) &&
  ((clsIn K (He.ga K nm)).any (fun cd => excTail tl (cd.mro.drop 1) && decide (alongIn K "__init__" (cd.mro.drop 1) = some (some (.builtin initId)))) &&
  (He.eqO (findIn K (.ref (He.ga K nm)) "__setattr__") (some (some (.builtin "object.__setattr__"))) &&
  (He.eqO (findIn K (.ref (He.ga K nm)) "__getattribute__") (some (some (.builtin "BaseException.__getattribute__"))) &&
  (He.eqO (findIn K (.ref (He.ga K nm)) "__getattr__") (some none) &&
  (He.eqO (findIn K (.ref (He.ga K nm)) fld) (some none) &&
  (He.eqO (findIn K (.ref (He.ga K nm)) "__init__") (some (some (.ref (iniA K nm)))) &&
  (decide (typeIn K (.ref (iniA K nm)) = some (.type "function")) &&
  (keepIn K (.ref (He.ga K nm)) &&
  (decide (subIn K (.ref (He.ga K nm)) (.type "BaseException") = some true) &&
  (decide (subIn K (.ref (He.ga K nm)) (.type B) = some true) &&
  (decide (typeIn K (.ref (He.ga K nm)) = some (.type "type")) &&
  (hasDictIn K (He.ga K nm) &&
  (decide (mroIn K (He.ga K nm) (.ref (He.ga K nm)) = some true) &&
  (decide (mroIn K (He.ga K nm) (.type "object") = some true) &&
  (He.eqO (nsIn K cStatics "thirdparty.any") (some none) &&
  (He.eqO (findIn K (.ref (He.ga K nm)) "__class__") (some (some (.builtin "object.__class__"))) &&
  (He.eqO (specialIn K (.builtin "object.__class__") "__get__") (some (some (.builtin "getset_descriptor.__get__"))) &&
  decide (takesIn K (.builtin "object.__class__") = some true))))))))))))))))))
def iniV (fld qn : Str) (p1 p2 q1 q2 q3 q4 q5 q6 q7 q8 q9 q10 : Pos) : IniD := some ("__init__", qn, xA fld p1 p2, FuncBody.stmts (xB fld q1 q2 q3 q4 q5 q6 q7 q8 q9 q10), xS fld, mainGlobals, builtinsNs)
def dOf (x : Str) (st : Stmt) : He.DefD := ⟨(x, none), x, x, defArgs st, defBody st, defScope st, [], []⟩
def fnL0 : List He.DefD := [dOf "is_whole" s_is_whole, dOf "ten" s_ten, dOf "power_fraction" s_power_fraction, dOf "shifted" s_shifted, dOf "floor_log" s_floor_log, dOf "half_of" s_half_of, dOf "count_of" s_count_of, dOf "run_slope" s_run_slope, dOf "top_slope" s_top_slope, dOf "is_above" s_is_above, dOf "exponent_of" s_exponent_of, dOf "start_of" s_start_of, dOf "cuts_of" s_cuts_of, dOf "pieces" s_pieces, dOf "position_line" s_position_line, dOf "read_stair" s_read_stair, dOf "up_stair" s_up_stair, dOf "half_stair" s_half_stair, dOf "below_half_stair" s_below_half_stair, dOf "beyond_code" s_beyond_code, dOf "stair_on" s_stair_on, dOf "pairs" s_pairs, dOf "value_at" s_value_at, dOf "first_turn" s_first_turn, dOf "next_turn" s_next_turn, dOf "sum_of_turn" s_sum_of_turn, dOf "sum_rows" s_sum_rows, dOf "sum_of" s_sum_of, dOf "sum_of_stair" s_sum_of_stair, dOf "is_sound" s_is_sound]
def fnL1 : List He.DefD := [dOf "check_sound" s_check_sound, dOf "run_kind" s_run_kind, dOf "wrong_pairs" s_wrong_pairs, dOf "wrong_steps" s_wrong_steps, dOf "steps_between" s_steps_between, dOf "count_in" s_count_in, dOf "place_in" s_place_in, dOf "at_in" s_at_in, dOf "check_fine" s_check_fine, dOf "count_wrong" s_count_wrong, dOf "wrong_at" s_wrong_at, dOf "_law_deck" s_law_deck, dOf "_law_draw" s_law_draw, dOf "_law_pick" s_law_pick, dOf "_law_whole" s_law_whole, dOf "_law_ten" s_law_ten, dOf "_law_cut" s_law_cut, dOf "_law_slope" s_law_slope, dOf "_law_values" s_law_values, dOf "_law_told" s_law_told, dOf "_law_codes" s_law_codes, dOf "_law_form" s_law_form, dOf "_law_power" s_law_power, dOf "_law_row" s_law_row, dOf "_law_sound" s_law_sound, dOf "_law_ways" s_law_ways, dOf "_law_wrong" s_law_wrong, dOf "_law_indexes" s_law_indexes, dOf "_law_count" s_law_count, dOf "_law_at" s_law_at]
def fnL2 : List He.DefD := [dOf "_law_right" s_law_right, dOf "law" s_law]
def fnL : List He.DefD := fnL0 ++ (fnL1 ++ (fnL2))
def faL0 : List He.Fa := [.glo "is_whole", .glo "ten", .glo "power_fraction", .glo "shifted", .glo "floor_log", .glo "half_of", .glo "count_of", .glo "run_slope", .glo "top_slope", .glo "is_above", .glo "exponent_of", .glo "start_of", .glo "cuts_of", .glo "pieces", .glo "position_line", .glo "read_stair", .glo "up_stair", .glo "half_stair", .glo "below_half_stair", .glo "beyond_code", .glo "stair_on", .glo "pairs", .glo "value_at", .glo "first_turn", .glo "next_turn", .glo "sum_of_turn", .glo "sum_rows", .glo "sum_of", .glo "sum_of_stair", .glo "is_sound"]
def faL1 : List He.Fa := [.glo "check_sound", .glo "run_kind", .glo "wrong_pairs", .glo "wrong_steps", .glo "steps_between", .glo "count_in", .glo "place_in", .glo "at_in", .glo "check_fine", .glo "count_wrong", .glo "wrong_at", .glo "_law_deck", .glo "_law_draw", .glo "_law_pick", .glo "_law_whole", .glo "_law_ten", .glo "_law_cut", .glo "_law_slope", .glo "_law_values", .glo "_law_told", .glo "_law_codes", .glo "_law_form", .glo "_law_power", .glo "_law_row", .glo "_law_sound", .glo "_law_ways", .glo "_law_wrong", .glo "_law_indexes", .glo "_law_count", .glo "_law_at"]
def faL2 : List He.Fa := [.glo "_law_right", .glo "law", .glo "NumberError", .free "len", .free "int", .free "range", .free "max", .free "min", .free "sum", .free "tuple", .free "zip", .free "sorted", .free "isinstance", .free "bool", .free "list", .free "repr", .free "abs", .free "super", .free "LookupError", .free "ValueError", .str "ZERO" "zero", .str "ODD" "odd", .int "SMALL" 4]
def faL : List He.Fa := faL0 ++ (faL1 ++ (faL2))
def names0 : List PySem.Str := [("is_whole" : PySem.Str), ("ten" : PySem.Str), ("power_fraction" : PySem.Str), ("shifted" : PySem.Str), ("floor_log" : PySem.Str), ("NumberError" : PySem.Str), ("NotSound" : PySem.Str), ("Coarse" : PySem.Str), ("NoIndex" : PySem.Str), ("half_of" : PySem.Str), ("count_of" : PySem.Str), ("ZERO" : PySem.Str), ("ODD" : PySem.Str), ("run_slope" : PySem.Str), ("top_slope" : PySem.Str), ("is_above" : PySem.Str), ("exponent_of" : PySem.Str), ("start_of" : PySem.Str), ("cuts_of" : PySem.Str), ("pieces" : PySem.Str), ("position_line" : PySem.Str), ("read_stair" : PySem.Str), ("up_stair" : PySem.Str), ("half_stair" : PySem.Str), ("below_half_stair" : PySem.Str), ("beyond_code" : PySem.Str), ("stair_on" : PySem.Str), ("pairs" : PySem.Str), ("SMALL" : PySem.Str), ("value_at" : PySem.Str)]
def names1 : List PySem.Str := [("first_turn" : PySem.Str), ("next_turn" : PySem.Str), ("sum_of_turn" : PySem.Str), ("sum_rows" : PySem.Str), ("sum_of" : PySem.Str), ("sum_of_stair" : PySem.Str), ("is_sound" : PySem.Str), ("check_sound" : PySem.Str), ("run_kind" : PySem.Str), ("wrong_pairs" : PySem.Str), ("wrong_steps" : PySem.Str), ("steps_between" : PySem.Str), ("count_in" : PySem.Str), ("place_in" : PySem.Str), ("at_in" : PySem.Str), ("check_fine" : PySem.Str), ("count_wrong" : PySem.Str), ("wrong_at" : PySem.Str), ("_law_deck" : PySem.Str), ("_law_draw" : PySem.Str), ("_law_pick" : PySem.Str), ("_law_whole" : PySem.Str), ("_law_ten" : PySem.Str), ("_law_cut" : PySem.Str), ("_law_slope" : PySem.Str), ("_law_values" : PySem.Str), ("_law_told" : PySem.Str), ("_law_codes" : PySem.Str), ("_law_form" : PySem.Str), ("_law_power" : PySem.Str)]
def names2 : List PySem.Str := [("_law_row" : PySem.Str), ("_law_sound" : PySem.Str), ("_law_ways" : PySem.Str), ("_law_wrong" : PySem.Str), ("_law_indexes" : PySem.Str), ("_law_count" : PySem.Str), ("_law_at" : PySem.Str), ("_law_right" : PySem.Str)]
def names : List PySem.Str := names0 ++ (names1 ++ (names2))
def iv_NotSound : IniD := iniV "power" "NotSound.__init__" ⟨26, 17, 26, 21⟩ ⟨26, 23, 26, 28⟩ ⟨27, 8, 27, 13⟩ ⟨27, 8, 27, 15⟩ ⟨27, 8, 27, 24⟩ ⟨27, 25, 27, 30⟩ ⟨27, 8, 27, 31⟩ ⟨27, 8, 27, 31⟩ ⟨28, 8, 28, 12⟩ ⟨28, 8, 28, 18⟩ ⟨28, 21, 28, 26⟩ ⟨28, 8, 28, 26⟩
def iv_Coarse : IniD := iniV "power" "Coarse.__init__" ⟨31, 17, 31, 21⟩ ⟨31, 23, 31, 28⟩ ⟨32, 8, 32, 13⟩ ⟨32, 8, 32, 15⟩ ⟨32, 8, 32, 24⟩ ⟨32, 25, 32, 30⟩ ⟨32, 8, 32, 31⟩ ⟨32, 8, 32, 31⟩ ⟨33, 8, 33, 12⟩ ⟨33, 8, 33, 18⟩ ⟨33, 21, 33, 26⟩ ⟨33, 8, 33, 26⟩
def iv_NoIndex : IniD := iniV "index" "NoIndex.__init__" ⟨36, 17, 36, 21⟩ ⟨36, 23, 36, 28⟩ ⟨37, 8, 37, 13⟩ ⟨37, 8, 37, 15⟩ ⟨37, 8, 37, 24⟩ ⟨37, 25, 37, 30⟩ ⟨37, 8, 37, 31⟩ ⟨37, 8, 37, 31⟩ ⟨38, 8, 38, 12⟩ ⟨38, 8, 38, 18⟩ ⟨38, 21, 38, 26⟩ ⟨38, 8, 38, 26⟩
abbrev R : PySem.W.OpenRow := PySem.W.OpenLaw.row PySem.Challenge.rw_numbertexts_k45_whole_wrong_numbers_coun
/-- the error classes with one another -/
def errB (K : PySem.W.Frag) : Bool :=
  (decide (PySem.W.exmOne K (.ref (He.ga K "NotSound")) (.ref (He.ga K "NotSound")) = some true) && (decide (PySem.W.exmOne K (.ref (He.ga K "Coarse")) (.ref (He.ga K "NotSound")) = some false) &&
  (decide (PySem.W.exmOne K (.ref (He.ga K "Coarse")) (.ref (He.ga K "Coarse")) = some true) && (decide (PySem.W.exmOne K (.ref (He.ga K "NoIndex")) (.ref (He.ga K "NotSound")) = some false) &&
  (decide (PySem.W.exmOne K (.ref (He.ga K "NoIndex")) (.ref (He.ga K "Coarse")) = some false) && (decide (PySem.W.exmOne K (.ref (He.ga K "NoIndex")) (.ref (He.ga K "NoIndex")) = some true) &&
  (decide (PySem.W.kitOne K (.ref (He.ga K "NotSound")) (.ref (He.ga K "NumberError")) = some true) && (decide (PySem.W.kitOne K (.ref (He.ga K "Coarse")) (.ref (He.ga K "NumberError")) = some true) &&
  (decide (PySem.W.kitOne K (.ref (He.ga K "NoIndex")) (.type "LookupError") = some true) && (decide (PySem.W.kitOne K (.ref (He.ga K "NoIndex")) (.type "ValueError") = some false) &&
  (PySem.W.isFn K (.ref (He.ga K "read_stair")) && (PySem.W.isFn K (.ref (He.ga K "up_stair")) && (PySem.W.isFn K (.ref (He.ga K "half_stair")) && PySem.W.isFn K (.ref (He.ga K "below_half_stair")))))))))))))))
def lookB (K : PySem.W.Frag) : Bool :=
  (clsB K "NotSound" "power" "ValueError" "ValueError.__new__" "ValueError.__init__" veT && iniB R.prog.main.file K "NotSound") && ((clsB K "Coarse" "power" "ValueError" "ValueError.__new__" "ValueError.__init__" veT && iniB R.prog.main.file K "Coarse") &&
  ((clsB K "NoIndex" "index" "LookupError" "LookupError.__new__" "LookupError.__init__" leT && iniB R.prog.main.file K "NoIndex") && errB K))
abbrev AlX : Type := He.AlD × (Bool × (IniD × (IniD × IniD)))
def lookX (K : PySem.W.Frag) : AlX := (He.obsD faL fnL K, (lookB K, (iniO K "NotSound", (iniO K "Coarse", iniO K "NoIndex"))))
def dueX : AlX := (He.valD fnL, (true, (iv_NotSound, (iv_Coarse, iv_NoIndex))))
/-- what a dict's values name -/
def valsOf (g : Addr → Option Obj) (a : Addr) : List Addr := match g a with
  | some ⟨_, _, .dict es _, _⟩ => es.toList.flatMap fun e => He.refV e.val
  | _ => []
/-- a def's code and cells, a class's names -/
def partsOf (g : Addr → Option Obj) (a : Addr) : List Addr := match g a with
  | some ⟨_, _, .func fd, _⟩ => He.refV fd.code ++ fd.closure.map fun c => c.2
  | some ⟨_, _, .cls cd, _⟩ => [cd.ns]
  | _ => []
/-- the addresses that are looked at: what the module names, its parts, what its classes name, and the parts of that -/
def atX (g : Addr → Option Obj) : List Addr :=
  let one := valsOf g mainGlobals
  let two := one.flatMap (partsOf g)
  let three := two.flatMap (valsOf g)
  mainGlobals :: cStatics :: (one ++ (two ++ (three ++ three.flatMap (partsOf g))))
/-- the part of the heap that is looked at -/
def partX (g : Addr → Option Obj) : PySem.W.Frag := He.frG g (atX g)
def hkX : PySem.W.Hook := {
  α := AlX
  obs := fun st => lookX (partX st.heap.get?)
  val := fun _ => dueX
  says := fun _ heap => ∃ part : PySem.W.Frag, part.In heap ∧ lookX part = dueX
  of := fun _ _ eq => ⟨_, He.frG_in, eq⟩
  keeps := by
    rintro _ _ _ ⟨part, isIn, eq⟩ kept
    exact ⟨part, isIn.keeps kept, eq⟩ }
def obX (st : PySem.W.SharedT) : AlX := lookX (partX (HandSHeadRun.getT st))
theorem obX_eq (st : PySem.W.SharedT) : obX st = hkX.obs st.abs := by
  show lookX (partX (HandSHeadRun.getT st)) = lookX (partX st.abs.heap.get?)
  rw [show HandSHeadRun.getT st = st.abs.heap.get? from funext (HandSHeadRun.getT_eq st)]
/-- the state behind the top -/
noncomputable abbrev endX (w : World) (os : OsState) : Option PySem.W.SharedT := HandSHeadRun.endF (HandSHeadRun.stepQ (HandSHeadRun.denQ HandSHeadRun.tabQ) R.prog w) 8000 R.prog w os
noncomputable abbrev seenX (st : PySem.W.SharedT) := HandSHeadRun.seenQ (PySem.W.view R.prog [79]) names (PySem.importedModules R.prog.main.body) (fun s => PySem.W.xlAt (PySem.W.view R.prog [79]) [] s && PySem.W.recOk R.toRowW.records s) st.abs
theorem top_looks (w : World) (os : OsState) : (endX w os).map (fun st => HandSHeadRun.looksF R.prog (PySem.W.boot_heap w.params) st.abs) = some true := by
  kernel_rfl
theorem top_seen (w : World) (os : OsState) : (endX w os).map seenX = some (PySem.W.openGood (PySem.W.view R.prog [79]) names) := by
  kernel_rfl
theorem top_told (w : World) (os : OsState) : (endX w os).map obX = some dueX := by
  kernel_rfl
theorem runX (w : World) : HandSHeadRun.RunEq R (PySem.W.view R.prog [79]) hkX obX 8000 names w := by
  intro os
  have one := top_looks w os
  have two := top_seen w os
  have three := top_told w os
  show (endX w os).map (fun st => (HandSHeadRun.looksF R.prog (PySem.W.boot_heap w.params) st.abs, seenX st, obX st)) = some (true, PySem.W.openGood (PySem.W.view R.prog [79]) names, dueX)
  generalize endX w os = e at one two three
  cases e with
  | none => cases one
  | some st =>
    have a := Option.some.inj one
    have b := Option.some.inj two
    have c := Option.some.inj three
    show some (HandSHeadRun.looksF R.prog (PySem.W.boot_heap w.params) st.abs, seenX st, obX st) = _
    dsimp only at a b c
    rw [a, b, c]
end K45
/-! ## MFloor -/
namespace K45
/-- sum of f over 0 .. n-1 -/
def sm (f : Nat → Int) : Nat → Int
  | 0 => 0
  | n + 1 => sm f n + f n
theorem sm_congr {f g : Nat → Int} : ∀ n, (∀ i, i < n → f i = g i) → sm f n = sm g n
  | 0, _ => rfl
  | n + 1, h => by
    show sm f n + f n = sm g n + g n
    rw [sm_congr n (fun i hi => h i (by omega)), h n (by omega)]
theorem sm_add {f g : Nat → Int} : ∀ n, sm (fun i => f i + g i) n = sm f n + sm g n
  | 0 => rfl
  | n + 1 => by
    show sm (fun i => f i + g i) n + (f n + g n) = sm f n + f n + (sm g n + g n)
    rw [sm_add n]; omega
theorem sm_sub {f g : Nat → Int} : ∀ n, sm (fun i => f i - g i) n = sm f n - sm g n
  | 0 => rfl
  | n + 1 => by
    show sm (fun i => f i - g i) n + (f n - g n) = sm f n + f n - (sm g n + g n)
    rw [sm_sub n]; omega
theorem sm_zero : ∀ n, sm (fun _ => 0) n = 0
  | 0 => rfl
  | n + 1 => by
    show sm (fun _ => 0) n + 0 = 0
    rw [sm_zero n]; rfl
theorem sm_const (k : Int) : ∀ n : Nat, sm (fun _ => k) n = k * n
  | 0 => by simp [sm]
  | n + 1 => by
    show sm (fun _ => k) n + k = k * ((n + 1 : Nat) : Int)
    rw [sm_const k n]
    have : ((n + 1 : Nat) : Int) = (n : Int) + 1 := by omega
    rw [this, Int.mul_add, Int.mul_one]
theorem sm_swap (f : Nat → Nat → Int) (m : Nat) : ∀ n, sm (fun i => sm (fun j => f i j) m) n = sm (fun j => sm (fun i => f i j) n) m
  | 0 => by
    show (0 : Int) = sm (fun j => 0) m
    rw [sm_zero]
  | n + 1 => by
    show sm (fun i => sm (fun j => f i j) m) n + sm (fun j => f n j) m = sm (fun j => sm (fun i => f i j) n + f n j) m
    rw [sm_swap f m n, sm_add]
/-- from the back -/
theorem sm_rev (f : Nat → Int) : ∀ n, sm f n = sm (fun i => f (n - 1 - i)) n := by
  have head : ∀ (g : Nat → Int) n, sm g (n + 1) = g 0 + sm (fun i => g (i + 1)) n := by
    intro g n
    induction n with
    | zero => simp [sm]
    | succ n ih =>
      show sm g (n + 1) + g (n + 1) = g 0 + (sm (fun i => g (i + 1)) n + g (n + 1))
      rw [ih]; omega
  intro n
  induction n with
  | zero => rfl
  | succ n ih =>
    rw [head (fun i => f (n + 1 - 1 - i)) n]
    show sm f n + f n = f (n + 1 - 1 - 0) + _
    rw [ih]
    have e : sm (fun i => f (n - 1 - i)) n = sm (fun i => f (n + 1 - 1 - (i + 1))) n := sm_congr n fun i hi => by
      congr 1; omega
    rw [e]
    have : n + 1 - 1 - 0 = n := by omega
    rw [this]; omega
/-- an indicator -/
def ind (p : Prop) [Decidable p] : Int := if p then 1 else 0
theorem ind_t {p : Prop} [Decidable p] (h : p) : ind p = 1 := if_pos h
theorem ind_f {p : Prop} [Decidable p] (h : ¬ p) : ind p = 0 := if_neg h
/-- how many of 1 .. m are at most q -/
theorem sm_le (q : Int) (hq : 0 ≤ q) : ∀ m : Nat, sm (fun j => ind ((j : Int) + 1 ≤ q)) m = if (m : Int) ≤ q then (m : Int) else q
  | 0 => by
    show (0 : Int) = _
    split <;> omega
  | m + 1 => by
    show sm (fun j => ind ((j : Int) + 1 ≤ q)) m + ind ((m : Int) + 1 ≤ q) = _
    rw [sm_le q hq m]
    by_cases h : (m : Int) + 1 ≤ q
    · rw [ind_t h, if_pos (by omega), if_pos (by omega)]; omega
    · rw [ind_f h]
      by_cases h2 : (m : Int) ≤ q
      · rw [if_pos h2, if_neg (by omega)]; omega
      · rw [if_neg h2, if_neg (by omega)]; omega
/-- how many of 0 .. n-1 are at least k -/
theorem sm_ge (k : Int) : ∀ n : Nat, sm (fun i => ind (k ≤ (i : Int))) n = if (n : Int) ≤ k then 0 else if 0 ≤ k then (n : Int) - k else (n : Int)
  | 0 => by
    show (0 : Int) = _
    split
    · rfl
    · split <;> omega
  | n + 1 => by
    show sm (fun i => ind (k ≤ (i : Int))) n + ind (k ≤ (n : Int)) = _
    rw [sm_ge k n]
    by_cases h : k ≤ (n : Int)
    · rw [ind_t h]
      by_cases h0 : 0 ≤ k
      · by_cases h2 : (n : Int) ≤ k
        · rw [if_pos h2, if_neg (by omega), if_pos h0]; omega
        · rw [if_neg h2, if_pos h0, if_neg (by omega), if_pos h0]; omega
      · rw [if_neg (by omega), if_neg h0, if_neg (by omega), if_neg h0]; omega
    · rw [ind_f h, if_pos (by omega), if_pos (by omega)]; rfl

/-- the value of the line (a, b, c) at x -/
def lv (a b c x : Int) : Int := (a * x + b) / c
/-- the sum of its values at 0 .. n-1 -/
def fs (a b c : Int) (n : Nat) : Int := sm (fun x => lv a b c (x : Int)) n

theorem ind_congr {p q : Prop} [Decidable p] [Decidable q] (h : p ↔ q) : ind p = ind q := by
  unfold ind; simp only [h]
/-- the step of the sums: a, b below c, m = (a n + b) / c -/
theorem fs_flip {a b c : Int} (n : Nat) (ha : 0 < a) (hb : 0 ≤ b) (hc : 0 < c) (hac : a < c) (hbc : b < c) :
    fs a b c n = fs c ((a * n + b) % c) a ((a * n + b) / c).toNat := by
  have hn0 : 0 ≤ a * (n : Int) := Int.mul_nonneg (by omega) (by omega)
  have hm0 : 0 ≤ (a * n + b) / c := Int.ediv_nonneg (by omega) (by omega)
  obtain ⟨m, hm⟩ : ∃ m : Nat, (a * n + b) / c = (m : Int) := ⟨((a * n + b) / c).toNat, by omega⟩
  have hr : a * n + b = c * m + (a * n + b) % c := by
    have := Int.mul_ediv_add_emod (a * n + b) c
    rw [hm] at this; omega
  have hr0 := Int.emod_nonneg (a * n + b) (show c ≠ 0 by omega)
  have hrc := Int.emod_lt_of_pos (a * n + b) hc
  generalize hrr : (a * n + b) % c = r at *
  rw [hm]
  have tm : ((m : Int)).toNat = m := by omega
  rw [tm]
  -- both count the pairs (x, j) with c (j + 1) ≤ a x + b
  have left : fs a b c n = sm (fun x => sm (fun j => ind (c * ((j : Int) + 1) ≤ a * (x : Int) + b)) m) n := by
    unfold fs
    refine sm_congr n fun x hx => ?_
    have hx0 : 0 ≤ a * (x : Int) := Int.mul_nonneg (by omega) (by omega)
    have hlv0 : 0 ≤ lv a b c x := Int.ediv_nonneg (by omega) (by omega)
    have hlvm : lv a b c x ≤ m := by
      unfold lv
      rw [← hm]
      refine Int.ediv_le_ediv hc ?_
      have : a * (x : Int) ≤ a * n := Int.mul_le_mul_of_nonneg_left (by omega) (by omega)
      omega
    have e : sm (fun j => ind (c * ((j : Int) + 1) ≤ a * (x : Int) + b)) m = sm (fun j => ind ((j : Int) + 1 ≤ lv a b c x)) m := sm_congr m fun j _ => by
      refine ind_congr ?_
      unfold lv
      rw [Int.le_ediv_iff_mul_le hc, Int.mul_comm]
    rw [e, sm_le _ hlv0]
    split <;> omega
  have right : fs c r a m = sm (fun j => sm (fun x => ind (c * ((j : Int) + 1) ≤ a * (x : Int) + b)) n) m := by
    unfold fs
    rw [sm_rev]
    refine sm_congr m fun j hj => ?_
    have ej : ((m - 1 - j : Nat) : Int) = (m : Int) - 1 - j := by omega
    rw [ej]
    -- the least x : ceil((c (j+1) - b) / a)
    have e : sm (fun x => ind (c * ((j : Int) + 1) ≤ a * (x : Int) + b)) n = sm (fun x => ind ((c * ((j : Int) + 1) - b + a - 1) / a ≤ (x : Int))) n := sm_congr n fun x _ => by
      refine ind_congr ?_
      have h1 : (c * ((j : Int) + 1) - b + a - 1) / a ≤ (x : Int) ↔ (c * ((j : Int) + 1) - b + a - 1) / a < (x : Int) + 1 := by omega
      rw [h1, Int.ediv_lt_iff_lt_mul ha]
      have h2 : ((x : Int) + 1) * a = a * x + a := by rw [Int.add_mul, Int.one_mul, Int.mul_comm]
      rw [h2]
      omega
    rw [e, sm_ge]
    have hcj : c * ((m : Int) - 1 - j) = c * m - c * ((j : Int) + 1) := by
      rw [← Int.mul_sub]; congr 1; omega
    have hlow : c * 1 ≤ c * ((j : Int) + 1) := Int.mul_le_mul_of_nonneg_left (by omega) (by omega)
    have hup : c * ((j : Int) + 1) ≤ c * m := Int.mul_le_mul_of_nonneg_left (by omega) (by omega)
    generalize hT : c * ((j : Int) + 1) = T at *
    have key : lv c r a ((m : Int) - 1 - j) = (n : Int) - (T - b + a - 1) / a := by
      unfold lv
      rw [hcj]
      have e1 : c * (m : Int) - T + r = a * n + (b - T) := by omega
      rw [e1, Int.mul_add_ediv_left _ _ (by omega)]
      have e2 : (T - b + a - 1) / a = - ((b - T) / a) := by
        have q1 := Int.mul_ediv_add_emod (b - T) a
        have q2 := Int.emod_nonneg (b - T) (show a ≠ 0 by omega)
        have q3 := Int.emod_lt_of_pos (b - T) ha
        generalize (b - T) / a = q at *
        generalize (b - T) % a = z at *
        have e3 : T - b + a - 1 = a * (-q) + (a - 1 - z) := by
          rw [Int.mul_neg]; omega
        rw [e3, Int.mul_add_ediv_left _ _ (by omega), Int.ediv_eq_zero_of_lt (by omega) (by omega)]
        omega
      rw [e2]; omega
    rw [key]
    have hk0 : 0 ≤ (T - b + a - 1) / a := Int.ediv_nonneg (by omega) (by omega)
    have hkn : (T - b + a - 1) / a ≤ n := by
      have h1 : (T - b + a - 1) / a < (n : Int) + 1 := by
        rw [Int.ediv_lt_iff_lt_mul ha]
        have h2 : ((n : Int) + 1) * a = a * n + a := by rw [Int.add_mul, Int.one_mul, Int.mul_comm]
        rw [h2]; omega
      omega
    split
    · omega
    · first | rfl | rw [if_pos hk0]
  rw [left, right, sm_swap]
/-- whole parts taken out -/
theorem fs_whole (a b c : Int) (hc : 0 < c) : ∀ n : Nat, fs a b c n = (a / c) * ((n : Int) * ((n : Int) - 1) / 2) + (b / c) * n + fs (a % c) (b % c) c n := by
  intro n
  induction n with
  | zero => simp [fs, sm]
  | succ n ih =>
    show fs a b c n + lv a b c n = _ + (fs (a % c) (b % c) c n + lv (a % c) (b % c) c n)
    rw [ih]
    have hl : lv a b c n = (a / c) * n + b / c + lv (a % c) (b % c) c n := by
      unfold lv
      have e1 := Int.mul_ediv_add_emod a c
      have e2 := Int.mul_ediv_add_emod b c
      have e : a * (n : Int) + b = c * ((a / c) * n + b / c) + ((a % c) * n + b % c) := by
        have h1 : a * (n : Int) = (c * (a / c) + a % c) * n := by rw [e1]
        rw [h1, Int.add_mul, Int.mul_add, Int.mul_assoc]
        omega
      rw [e, Int.mul_add_ediv_left _ _ (by omega)]
    rw [hl]
    have tri : (((n + 1 : Nat) : Int) * (((n + 1 : Nat) : Int) - 1) / 2) = ((n : Int) * ((n : Int) - 1) / 2) + n := by
      have e3 : (((n + 1 : Nat) : Int) * (((n + 1 : Nat) : Int) - 1)) = (n : Int) * ((n : Int) - 1) + n * 2 := by
        have : ((n + 1 : Nat) : Int) = (n : Int) + 1 := by omega
        have h5 : (n : Int) + 1 - 1 = n := by omega
        rw [this, h5, Int.add_mul, Int.mul_sub]
        omega
      rw [e3, Int.add_mul_ediv_right _ _ (by decide)]
    rw [tri]
    have e4 : ((n + 1 : Nat) : Int) = (n : Int) + 1 := by omega
    rw [e4, Int.mul_add, Int.mul_add, Int.mul_one]
    omega
/-- no whole values -/
theorem fs_none {a b c : Int} {n : Nat} (ha : 0 ≤ a) (hb : 0 ≤ b) (hc : 0 < c) (h : a * n + b < c) : fs a b c n = 0 := by
  have e : fs a b c n = sm (fun _ => 0) n := by
    unfold fs
    refine sm_congr n fun x hx => ?_
    have h0 : 0 ≤ a * (x : Int) := Int.mul_nonneg ha (by omega)
    have h1 : a * (x : Int) ≤ a * n := Int.mul_le_mul_of_nonneg_left (by omega) ha
    exact Int.ediv_eq_zero_of_lt (by omega) (by omega)
  rw [e, sm_zero]
/-- a turn: the (n, a, b, c) of a sum row -/
structure Turn where
  n : Int
  a : Int
  b : Int
  c : Int
def Turn.top (t : Turn) : Int := (t.a % t.c) * t.n + t.b % t.c
def Turn.last (t : Turn) : Bool := decide (t.n ≤ 4) || decide (t.top < t.c)
def Turn.next (t : Turn) : Turn := ⟨t.top / t.c, t.c, t.top % t.c, t.a % t.c⟩
def Turn.sum (t : Turn) : Int := fs t.a t.b t.c t.n.toNat
/-- what sum_of_turn gives -/
def Turn.told (t : Turn) (more : Int) : Int := if t.n ≤ 4 then fs t.a t.b t.c t.n.toNat else (t.a / t.c) * (t.n * (t.n - 1) / 2) + (t.b / t.c) * t.n + more
structure Turn.Ok (t : Turn) : Prop where
  n0 : 0 ≤ t.n
  c0 : 0 < t.c
theorem Turn.last_sum {t : Turn} (o : t.Ok) (h : t.last = true) : t.told 0 = t.sum := by
  obtain ⟨n0, c0⟩ := o
  unfold Turn.told Turn.sum
  by_cases h4 : t.n ≤ 4
  · rw [if_pos h4]
  · rw [if_neg h4]
    have ht : t.top < t.c := by
      unfold Turn.last at h
      rw [Bool.or_eq_true, decide_eq_true_eq, decide_eq_true_eq] at h
      omega
    obtain ⟨n, hn⟩ : ∃ n : Nat, t.n = (n : Int) := ⟨t.n.toNat, by omega⟩
    unfold Turn.top at ht
    rw [hn] at ht ⊢
    have e : ((n : Int)).toNat = n := by omega
    rw [e, fs_whole t.a t.b t.c c0 n, fs_none (Int.emod_nonneg _ (by omega)) (Int.emod_nonneg _ (by omega)) c0 ht]
theorem Turn.next_pos {t : Turn} (o : t.Ok) (h : t.last = false) : 0 < t.a % t.c := by
  obtain ⟨n0, c0⟩ := o
  have h1 := Int.emod_nonneg t.a (show t.c ≠ 0 by omega)
  have h2 := Int.emod_lt_of_pos t.b c0
  unfold Turn.last Turn.top at h
  rw [Bool.or_eq_false_iff, decide_eq_false_iff_not, decide_eq_false_iff_not] at h
  by_cases e : t.a % t.c = 0
  · rw [e, Int.zero_mul] at h; omega
  · omega
theorem Turn.next_ok {t : Turn} (o : t.Ok) (h : t.last = false) : t.next.Ok := by
  have hp := Turn.next_pos o h
  obtain ⟨n0, c0⟩ := o
  refine ⟨?_, hp⟩
  unfold Turn.last at h
  rw [Bool.or_eq_false_iff, decide_eq_false_iff_not, decide_eq_false_iff_not] at h
  exact Int.ediv_nonneg (by omega) (by omega)
theorem Turn.next_sum {t : Turn} (o : t.Ok) (h : t.last = false) : t.told t.next.sum = t.sum := by
  have hp := Turn.next_pos o h
  obtain ⟨n0, c0⟩ := o
  unfold Turn.last at h
  rw [Bool.or_eq_false_iff, decide_eq_false_iff_not, decide_eq_false_iff_not] at h
  unfold Turn.told
  rw [if_neg h.1]
  obtain ⟨n, hn⟩ : ∃ n : Nat, t.n = (n : Int) := ⟨t.n.toNat, by omega⟩
  have e : ((n : Int)).toNat = n := by omega
  unfold Turn.sum Turn.next Turn.top
  rw [hn, e, fs_whole t.a t.b t.c c0 n]
  congr 1
  rw [fs_flip n hp (Int.emod_nonneg _ (by omega)) c0 (Int.emod_lt_of_pos _ c0) (Int.emod_lt_of_pos _ c0)]
theorem Turn.next_n {t : Turn} (o : t.Ok) : t.next.n ≤ t.n := by
  obtain ⟨n0, c0⟩ := o
  have h1 := Int.emod_lt_of_pos t.a c0
  have h2 := Int.emod_lt_of_pos t.b c0
  show t.top / t.c ≤ t.n
  have : t.top / t.c < t.n + 1 := by
    rw [Int.ediv_lt_iff_lt_mul c0]
    unfold Turn.top
    have h3 : (t.a % t.c) * t.n ≤ (t.c - 1) * t.n := Int.mul_le_mul_of_nonneg_right (by omega) n0
    rw [Int.sub_mul, Int.one_mul] at h3
    rw [Int.add_mul, Int.one_mul, Int.mul_comm t.n t.c]
    omega
  omega
/-- what falls: the product halves once a is above c -/
theorem Turn.next_half {t : Turn} (o : t.Ok) (h : t.last = false) (hac : t.c < t.a) : 2 * (t.next.a * t.next.c) ≤ t.a * t.c := by
  have hp := Turn.next_pos o h
  obtain ⟨n0, c0⟩ := o
  show 2 * (t.c * (t.a % t.c)) ≤ t.a * t.c
  have h1 := Int.mul_ediv_add_emod t.a t.c
  have h2 := Int.emod_lt_of_pos t.a c0
  have hq : 1 ≤ t.a / t.c := by
    rw [Int.le_ediv_iff_mul_le c0]; omega
  have h3 : t.c * 1 ≤ t.c * (t.a / t.c) := Int.mul_le_mul_of_nonneg_left hq (by omega)
  have h4 : 2 * (t.a % t.c) ≤ t.a := by omega
  have h5 : t.c * (2 * (t.a % t.c)) ≤ t.c * t.a := Int.mul_le_mul_of_nonneg_left h4 (by omega)
  rw [Int.mul_comm t.a t.c]
  have e : 2 * (t.c * (t.a % t.c)) = t.c * (2 * (t.a % t.c)) := Int.mul_left_comm _ _ _
  omega
theorem Turn.next_ac {t : Turn} (o : t.Ok) : t.next.c < t.next.a := Int.emod_lt_of_pos t.a o.c0
end K45
/-! ## MRead -/
namespace K45
inductive Way where
  | even | away | zero | out | odd
  deriving DecidableEq
theorem div_is {z d q : Int} (hd : 0 < d) (h1 : d * q ≤ z) (h2 : z < d * q + d) : z / d = q := by
  have e : z = d * q + (z - d * q) := by omega
  rw [e, Int.mul_add_ediv_left _ _ (by omega), Int.ediv_eq_zero_of_lt (by omega) (by omega)]
  omega
/-- what a position n / c is read as: the stairs' own terms -/
def readF (w : Way) (n c : Int) : Int := match w with
  | .even => (2 * n + c) / (4 * c) + (2 * n + 3 * c - 1) / (4 * c)
  | .away => (2 * n + c) / (2 * c)
  | .zero => n / c
  | .out => (n + c - 1) / c
  | .odd => n / (2 * c) + (n + 2 * c - 1) / (2 * c)
/-- what is just above it -/
def upF (w : Way) (n c : Int) : Int := match w with
  | .even => (2 * n + c) / (2 * c)
  | .away => (2 * n + c) / (2 * c)
  | .zero => n / c
  | .out => (n + c) / c
  | .odd => n / (2 * c) + (n + 2 * c) / (2 * c)
def halfF (n c : Int) : Int := n / (2 * c)
def belowF (n c : Int) : Int := (n - 1) / (2 * c)
/-- by the code k below and the rest r of c; s: just above -/
def toldR (w : Way) (s : Bool) (k r c : Int) : Int := match w with
  | .zero => k
  | .out => if s = false ∧ r = 0 then k else k + 1
  | .odd => if s = false ∧ r = 0 then k else k + 1 - k % 2
  | .away => if s = false ∧ r = 0 then k else if 2 * r ≥ c then k + 1 else k
  | .even => if s = false ∧ r = 0 then k else if 2 * r = c ∧ s = false then k + k % 2 else if 2 * r ≥ c then k + 1 else k
theorem par (k : Int) : ∃ l e : Int, k = 2 * l + e ∧ (e = 0 ∨ e = 1) ∧ k % 2 = e := ⟨k / 2, k % 2, by omega, by omega, rfl⟩
theorem readF_told (w : Way) {k r c : Int} (h0 : 0 ≤ r) (hr : r < c) : readF w (c * k + r) c = toldR w false k r c := by
  have hc : 0 < c := by omega
  obtain ⟨l, e, hk, he, hm⟩ := par k
  have ek : c * k = 2 * (c * l) + c * e := by rw [hk, Int.mul_add, Int.mul_left_comm]
  have d4 : ∀ z : Int, 4 * c * (l + z) = 4 * (c * l) + 4 * (c * z) := fun z => by rw [Int.mul_assoc, Int.mul_add, Int.mul_add]
  have d2 : ∀ z : Int, 2 * c * (l + z) = 2 * (c * l) + 2 * (c * z) := fun z => by rw [Int.mul_assoc, Int.mul_add, Int.mul_add]
  have dk : ∀ z : Int, 2 * c * (k + z) = 2 * (c * k) + 2 * (c * z) := fun z => by rw [Int.mul_assoc, Int.mul_add, Int.mul_add]
  have d1 : ∀ z : Int, c * (k + z) = c * k + c * z := fun z => Int.mul_add _ _ _
  have z0 : c * 0 = 0 := Int.mul_zero c
  have z1 : c * 1 = c := Int.mul_one c
  have zm : c * (-1) = -c := by rw [Int.mul_neg, Int.mul_one]
  cases w with
  | zero =>
    show (c * k + r) / c = k
    exact div_is hc (by omega) (by omega)
  | out =>
    show (c * k + r + c - 1) / c = if false = false ∧ r = 0 then k else k + 1
    by_cases h : r = 0
    · rw [if_pos ⟨rfl, h⟩]
      exact div_is hc (by omega) (by omega)
    · rw [if_neg (fun z => h z.2)]
      have q := d1 1
      exact div_is hc (by omega) (by omega)
  | away =>
    show (2 * (c * k + r) + c) / (2 * c) = if false = false ∧ r = 0 then k else if 2 * r ≥ c then k + 1 else k
    have q0 := dk 0
    have q1 := dk 1
    rw [Int.add_zero] at q0
    by_cases h : r = 0
    · rw [if_pos ⟨rfl, h⟩]
      exact div_is (by omega) (by omega) (by omega)
    · rw [if_neg (fun z => h z.2)]
      by_cases h2 : 2 * r ≥ c
      · rw [if_pos h2]
        exact div_is (by omega) (by omega) (by omega)
      · rw [if_neg h2]
        exact div_is (by omega) (by omega) (by omega)
  | odd =>
    show (c * k + r) / (2 * c) + (c * k + r + 2 * c - 1) / (2 * c) = if false = false ∧ r = 0 then k else k + 1 - k % 2
    have q0 := d2 0
    have q1 := d2 1
    rw [Int.add_zero] at q0
    have a1 : (c * k + r) / (2 * c) = l := by
      rcases he with he | he <;> rw [he] at ek <;> exact div_is (by omega) (by omega) (by omega)
    rw [a1]
    rcases he with he | he
    · rw [he] at ek
      by_cases h : r = 0
      · rw [if_pos ⟨rfl, h⟩, div_is (q := l) (by omega) (by omega) (by omega)]; omega
      · rw [if_neg (fun z => h z.2), div_is (q := l + 1) (by omega) (by omega) (by omega)]; omega
    · rw [he] at ek
      by_cases h : r = 0
      · rw [if_pos ⟨rfl, h⟩, div_is (q := l + 1) (by omega) (by omega) (by omega)]; omega
      · rw [if_neg (fun z => h z.2), div_is (q := l + 1) (by omega) (by omega) (by omega)]; omega
  | even =>
    show (2 * (c * k + r) + c) / (4 * c) + (2 * (c * k + r) + 3 * c - 1) / (4 * c) = if false = false ∧ r = 0 then k else if 2 * r = c ∧ false = false then k + k % 2 else if 2 * r ≥ c then k + 1 else k
    have q0 := d4 0
    have q1 := d4 1
    rw [Int.add_zero] at q0
    rcases he with he | he
    · rw [he] at ek
      rw [div_is (q := l) (by omega) (by omega) (by omega)]
      by_cases h : r = 0
      · rw [if_pos ⟨rfl, h⟩, div_is (q := l) (by omega) (by omega) (by omega)]; omega
      · rw [if_neg (fun z => h z.2)]
        by_cases h2 : 2 * r = c
        · rw [if_pos ⟨h2, rfl⟩, div_is (q := l) (by omega) (by omega) (by omega)]; omega
        · rw [if_neg (fun z => h2 z.1)]
          by_cases h3 : 2 * r ≥ c
          · rw [if_pos h3, div_is (q := l + 1) (by omega) (by omega) (by omega)]; omega
          · rw [if_neg h3, div_is (q := l) (by omega) (by omega) (by omega)]; omega
    · rw [he] at ek
      rw [div_is (z := 2 * (c * k + r) + 3 * c - 1) (q := l + 1) (by omega) (by omega) (by omega)]
      by_cases h : r = 0
      · rw [if_pos ⟨rfl, h⟩, div_is (q := l) (by omega) (by omega) (by omega)]; omega
      · rw [if_neg (fun z => h z.2)]
        by_cases h2 : 2 * r = c
        · rw [if_pos ⟨h2, rfl⟩, div_is (q := l + 1) (by omega) (by omega) (by omega)]; omega
        · rw [if_neg (fun z => h2 z.1)]
          by_cases h3 : 2 * r ≥ c
          · rw [if_pos h3, div_is (q := l + 1) (by omega) (by omega) (by omega)]; omega
          · rw [if_neg h3, div_is (q := l) (by omega) (by omega) (by omega)]; omega
theorem upF_told (w : Way) {k r c : Int} (h0 : 0 ≤ r) (hr : r < c) : upF w (c * k + r) c = toldR w true k r c := by
  have hc : 0 < c := by omega
  obtain ⟨l, e, hk, he, hm⟩ := par k
  have ek : c * k = 2 * (c * l) + c * e := by rw [hk, Int.mul_add, Int.mul_left_comm]
  have d2 : ∀ z : Int, 2 * c * (l + z) = 2 * (c * l) + 2 * (c * z) := fun z => by rw [Int.mul_assoc, Int.mul_add, Int.mul_add]
  have dk : ∀ z : Int, 2 * c * (k + z) = 2 * (c * k) + 2 * (c * z) := fun z => by rw [Int.mul_assoc, Int.mul_add, Int.mul_add]
  have d1 : ∀ z : Int, c * (k + z) = c * k + c * z := fun z => Int.mul_add _ _ _
  have z0 : c * 0 = 0 := Int.mul_zero c
  have z1 : c * 1 = c := Int.mul_one c
  have nt : ¬ (true = false ∧ r = 0) := fun z => Bool.noConfusion z.1
  have nt2 : ¬ (2 * r = c ∧ true = false) := fun z => Bool.noConfusion z.2
  have near : (2 * (c * k + r) + c) / (2 * c) = if 2 * r ≥ c then k + 1 else k := by
    have q0 := dk 0
    have q1 := dk 1
    rw [Int.add_zero] at q0
    by_cases h2 : 2 * r ≥ c
    · rw [if_pos h2]
      exact div_is (by omega) (by omega) (by omega)
    · rw [if_neg h2]
      exact div_is (by omega) (by omega) (by omega)
  cases w with
  | zero =>
    show (c * k + r) / c = k
    exact div_is hc (by omega) (by omega)
  | out =>
    show (c * k + r + c) / c = if true = false ∧ r = 0 then k else k + 1
    rw [if_neg nt]
    have q := d1 1
    exact div_is hc (by omega) (by omega)
  | away =>
    show (2 * (c * k + r) + c) / (2 * c) = if true = false ∧ r = 0 then k else if 2 * r ≥ c then k + 1 else k
    rw [if_neg nt, near]
  | even =>
    show (2 * (c * k + r) + c) / (2 * c) = if true = false ∧ r = 0 then k else if 2 * r = c ∧ true = false then k + k % 2 else if 2 * r ≥ c then k + 1 else k
    rw [if_neg nt, if_neg nt2, near]
  | odd =>
    show (c * k + r) / (2 * c) + (c * k + r + 2 * c) / (2 * c) = if true = false ∧ r = 0 then k else k + 1 - k % 2
    rw [if_neg nt]
    have q0 := d2 0
    have q1 := d2 1
    rw [Int.add_zero] at q0
    have a1 : (c * k + r) / (2 * c) = l := by
      rcases he with he | he <;> rw [he] at ek <;> exact div_is (by omega) (by omega) (by omega)
    have a2 : (c * k + r + 2 * c) / (2 * c) = l + 1 := by
      rcases he with he | he <;> rw [he] at ek <;> exact div_is (by omega) (by omega) (by omega)
    rw [a1, a2]; omega
theorem halfF_told {k r c : Int} (h0 : 0 ≤ r) (hr : r < c) : halfF (c * k + r) c = k / 2 := by
  have hc : 0 < c := by omega
  obtain ⟨l, e, hk, he, hm⟩ := par k
  have ek : c * k = 2 * (c * l) + c * e := by rw [hk, Int.mul_add, Int.mul_left_comm]
  have d2 : 2 * c * l = 2 * (c * l) := by rw [Int.mul_assoc]
  have z0 : c * 0 = 0 := Int.mul_zero c
  have z1 : c * 1 = c := Int.mul_one c
  have e2 : k / 2 = l := by omega
  unfold halfF
  rw [e2]
  rcases he with he | he <;> rw [he] at ek <;> exact div_is (by omega) (by omega) (by omega)
theorem belowF_told {k r c : Int} (h0 : 0 ≤ r) (hr : r < c) : belowF (c * k + r) c = if r = 0 ∧ k % 2 = 0 then k / 2 - 1 else k / 2 := by
  have hc : 0 < c := by omega
  obtain ⟨l, e, hk, he, hm⟩ := par k
  have ek : c * k = 2 * (c * l) + c * e := by rw [hk, Int.mul_add, Int.mul_left_comm]
  have d2 : 2 * c * l = 2 * (c * l) := by rw [Int.mul_assoc]
  have d3 : 2 * c * (l - 1) = 2 * (c * l) - 2 * c := by rw [Int.mul_assoc, Int.mul_sub, Int.mul_one]; omega
  have z0 : c * 0 = 0 := Int.mul_zero c
  have z1 : c * 1 = c := Int.mul_one c
  have e2 : k / 2 = l := by omega
  unfold belowF
  rw [e2, hm]
  rcases he with he | he
  · rw [he] at ek
    by_cases h : r = 0
    · rw [if_pos ⟨h, he⟩]
      exact div_is (by omega) (by omega) (by omega)
    · rw [if_neg (fun z => h z.1)]
      exact div_is (by omega) (by omega) (by omega)
  · rw [he] at ek
    rw [if_neg (fun z => by omega)]
    exact div_is (by omega) (by omega) (by omega)
theorem toldR_scale (w : Way) (s : Bool) {k r c z : Int} (hz : 0 < z) : toldR w s k (z * r) (z * c) = toldR w s k r c := by
  have h0 : z * r = 0 ↔ r = 0 := by
    rw [Int.mul_eq_zero]
    exact ⟨fun h => h.elim (fun q => by omega) id, .inr⟩
  have e : 2 * (z * r) = z * (2 * r) := Int.mul_left_comm _ _ _
  have h1 : 2 * (z * r) ≥ z * c ↔ 2 * r ≥ c := by
    rw [e]
    exact ⟨fun h => Int.le_of_mul_le_mul_left h hz, fun h => Int.mul_le_mul_of_nonneg_left h (by omega)⟩
  have h2 : 2 * (z * r) = z * c ↔ 2 * r = c := by
    rw [e]
    exact ⟨fun h => Int.eq_of_mul_eq_mul_left (by omega) h, fun h => by rw [h]⟩
  cases w <;> simp only [toldR, h0, h1, h2]
theorem split (n : Int) {c : Int} (hc : 0 < c) : n = c * (n / c) + n % c ∧ 0 ≤ n % c ∧ n % c < c :=
  ⟨(Int.mul_ediv_add_emod n c).symm, Int.emod_nonneg n (by omega), Int.emod_lt_of_pos n hc⟩
theorem readF_of (w : Way) (n : Int) {c : Int} (hc : 0 < c) : readF w n c = toldR w false (n / c) (n % c) c := by
  obtain ⟨h1, h2, h3⟩ := split n hc
  have q := readF_told w (k := n / c) h2 h3
  rw [← h1] at q; exact q
theorem upF_of (w : Way) (n : Int) {c : Int} (hc : 0 < c) : upF w n c = toldR w true (n / c) (n % c) c := by
  obtain ⟨h1, h2, h3⟩ := split n hc
  have q := upF_told w (k := n / c) h2 h3
  rw [← h1] at q; exact q
theorem halfF_of (n : Int) {c : Int} (hc : 0 < c) : halfF n c = n / c / 2 := by
  obtain ⟨h1, h2, h3⟩ := split n hc
  have q := halfF_told (k := n / c) h2 h3
  rw [← h1] at q; exact q
theorem belowF_of (n : Int) {c : Int} (hc : 0 < c) : belowF n c = if n % c = 0 ∧ n / c % 2 = 0 then n / c / 2 - 1 else n / c / 2 := by
  obtain ⟨h1, h2, h3⟩ := split n hc
  have q := belowF_told (k := n / c) h2 h3
  rw [← h1] at q; exact q
/-- the same fraction -/
theorem frac {n c m d : Int} (hc : 0 < c) (hd : 0 < d) (h : n * d = m * c) : n / c = m / d ∧ d * (n % c) = c * (m % d) := by
  have e1 : n / c = d * n / (d * c) := (Int.mul_ediv_mul_of_pos n c hd).symm
  have e2 : m / d = c * m / (c * d) := (Int.mul_ediv_mul_of_pos m d hc).symm
  have e3 : d * n = c * m := by rw [Int.mul_comm d n, h, Int.mul_comm]
  have e4 : d * (n % c) = (d * n) % (d * c) := (Int.mul_emod_mul_of_pos n c hd).symm
  have e5 : c * (m % d) = (c * m) % (c * d) := (Int.mul_emod_mul_of_pos m d hc).symm
  rw [e1, e2, e4, e5, e3, Int.mul_comm d c]
  exact ⟨rfl, rfl⟩
theorem toldR_frac (w : Way) (s : Bool) {n c m d : Int} (hc : 0 < c) (hd : 0 < d) (h : n * d = m * c) : toldR w s (n / c) (n % c) c = toldR w s (m / d) (m % d) d := by
  obtain ⟨h1, h2⟩ := frac hc hd h
  rw [← toldR_scale w s (z := d) hd, ← toldR_scale (r := m % d) (c := d) w s (z := c) hc, h1, h2, Int.mul_comm d c]
theorem readF_frac (w : Way) {n c m d : Int} (hc : 0 < c) (hd : 0 < d) (h : n * d = m * c) : readF w n c = readF w m d := by
  rw [readF_of w n hc, readF_of w m hd, toldR_frac w false hc hd h]
theorem upF_frac (w : Way) {n c m d : Int} (hc : 0 < c) (hd : 0 < d) (h : n * d = m * c) : upF w n c = upF w m d := by
  rw [upF_of w n hc, upF_of w m hd, toldR_frac w true hc hd h]
theorem halfF_frac {n c m d : Int} (hc : 0 < c) (hd : 0 < d) (h : n * d = m * c) : halfF n c = halfF m d := by
  rw [halfF_of n hc, halfF_of m hd, (frac hc hd h).1]
theorem belowF_frac {n c m d : Int} (hc : 0 < c) (hd : 0 < d) (h : n * d = m * c) : belowF n c = belowF m d := by
  obtain ⟨h1, h2⟩ := frac hc hd h
  have h3 : n % c = 0 ↔ m % d = 0 := by
    constructor
    · intro z
      rw [z, Int.mul_zero] at h2
      have := Int.mul_eq_zero.mp h2.symm
      omega
    · intro z
      rw [z, Int.mul_zero] at h2
      have := Int.mul_eq_zero.mp h2
      omega
  rw [belowF_of n hc, belowF_of m hd, h1]
  simp only [h3]
end K45
/-! ## MCode -/
namespace K45
theorem p2pos : ∀ k : Nat, (0 : Int) < 2 ^ k
  | 0 => by decide
  | k + 1 => by rw [Int.pow_succ]; have := p2pos k; omega
theorem p2succ (k : Nat) : (2 : Int) ^ (k + 1) = 2 * 2 ^ k := by rw [Int.pow_succ, Int.mul_comm]
theorem p2add (a b : Nat) : (2 : Int) ^ (a + b) = 2 ^ a * 2 ^ b := Int.pow_add 2 a b
theorem p2mono {a b : Nat} (h : a ≤ b) : (2 : Int) ^ a ≤ 2 ^ b := by
  obtain ⟨k, rfl⟩ := Nat.exists_eq_add_of_le h
  rw [p2add]
  have h1 := p2pos a
  have h2 := p2pos k
  have : (2 : Int) ^ a * 1 ≤ 2 ^ a * 2 ^ k := Int.mul_le_mul_of_nonneg_left (by omega) (by omega)
  omega
/-- the codes' values, in units of the least step -/
def half (p : Nat) : Int := 2 ^ (p - 1)
def val (p : Nat) (i : Int) : Int := if i < 2 * half p then i else (i - (i / half p - 1) * half p) * 2 ^ (i / half p - 1).toNat
theorem half_pos (p : Nat) : 0 < half p := p2pos _
theorem half_two {p : Nat} (hp : 1 ≤ p) : 2 * half p = 2 ^ p := by
  obtain ⟨q, rfl⟩ : ∃ q, p = q + 1 := ⟨p - 1, by omega⟩
  show 2 * (2 : Int) ^ (q + 1 - 1) = _
  rw [p2succ]; rfl
theorem val_at (p j : Nat) {m : Int} (h0 : 0 ≤ m) (h1 : m ≤ 2 * half p) (hj : j = 0 ∨ half p ≤ m) : val p ((j : Int) * half p + m) = m * 2 ^ j := by
  have hh := half_pos p
  have key : ∀ (i : Nat) (z : Int), half p ≤ z → z < 2 * half p → 1 ≤ i → val p ((i : Int) * half p + z) = z * 2 ^ i := fun i z z1 z2 hi => by
    have e1 : (i : Int) * half p = half p * i := Int.mul_comm _ _
    have hq : ((i : Int) * half p + z) / half p = i + 1 := by
      refine div_is hh ?_ ?_ <;> rw [e1, Int.mul_add, Int.mul_one] <;> omega
    have hbig : ¬ ((i : Int) * half p + z < 2 * half p) := by
      have : half p * 1 ≤ half p * (i : Int) := Int.mul_le_mul_of_nonneg_left (by omega) (by omega)
      rw [e1]; omega
    unfold val
    rw [if_neg hbig, hq]
    have e2 : ((i : Int) + 1 - 1) = i := by omega
    rw [e2, Int.toNat_natCast]
    have e3 : (i : Int) * half p + z - (i : Int) * half p = z := by omega
    rw [e3]
  by_cases hm : m = 2 * half p
  · have e : (j : Int) * half p + m = ((j + 1 : Nat) : Int) * half p + half p := by
      have : ((j + 1 : Nat) : Int) = (j : Int) + 1 := by omega
      rw [this, Int.add_mul, Int.one_mul]; omega
    rw [e, key (j + 1) (half p) (by omega) (by omega) (by omega), hm, p2succ, Int.mul_left_comm, Int.mul_assoc]
  · rcases hj with hj | hj
    · subst hj
      unfold val
      rw [if_pos (by simp; omega)]
      simp
    · by_cases h : j = 0
      · subst h
        unfold val
        rw [if_pos (by simp; omega)]
        simp
      · exact key j m hj (by omega) (by omega)
theorem val_dec (p : Nat) {k : Int} (hk : 0 ≤ k) : ∃ (j : Nat) (m : Int), k = (j : Int) * half p + m ∧ 0 ≤ m ∧ m < 2 * half p ∧ (j = 0 ∨ half p ≤ m) := by
  have hh := half_pos p
  by_cases h : k < 2 * half p
  · exact ⟨0, k, by simp, hk, h, .inl rfl⟩
  · obtain ⟨h1, h2, h3⟩ := split k hh
    have hq : 2 ≤ k / half p := by
      rw [Int.le_ediv_iff_mul_le hh]; omega
    refine ⟨(k / half p - 1).toNat, half p + k % half p, ?_, by omega, by omega, .inr (by omega)⟩
    have e : (((k / half p - 1).toNat : Nat) : Int) = k / half p - 1 := by omega
    rw [e, Int.sub_mul, Int.one_mul, Int.mul_comm]
    omega
theorem val_step (p : Nat) {k : Int} (hk : 0 ≤ k) : val p k < val p (k + 1) := by
  obtain ⟨j, m, e, m0, m1, hj⟩ := val_dec p hk
  have a := val_at p j m0 (by omega) hj
  have b := val_at p j (m := m + 1) (by omega) (by omega) (hj.elim .inl fun h => .inr (by omega))
  have e2 : k + 1 = (j : Int) * half p + (m + 1) := by omega
  rw [e2, b, e, a, Int.add_mul, Int.one_mul]
  have := p2pos j
  omega
theorem val_mono (p : Nat) {k : Int} (hk : 0 ≤ k) : ∀ d : Nat, val p k ≤ val p (k + d)
  | 0 => by simp
  | d + 1 => by
    have h1 := val_mono p hk d
    have h2 := val_step p (k := k + d) (by omega)
    have e : k + ((d + 1 : Nat) : Int) = k + d + 1 := by omega
    rw [e]; omega
theorem val_zero (p : Nat) : val p 0 = 0 := by
  unfold val
  have := half_pos p
  rw [if_pos (by omega)]
/-- how many numbers -/
def many (p J : Nat) : Int := ((J : Int) + 2) * half p
theorem many_pos (p J : Nat) : 2 ≤ many p J := by
  have h := half_pos p
  unfold many
  have : 2 * half p ≤ ((J : Int) + 2) * half p := Int.mul_le_mul_of_nonneg_right (by omega) (by omega)
  omega
/-- the law's code of U / D -/
def IsCode (p J : Nat) (D U k : Int) : Prop := 0 ≤ k ∧ k ≤ many p J - 1 ∧ val p k * D ≤ U ∧ (k = many p J - 1 ∨ U < val p (k + 1) * D)
theorem isCode_unique {p J : Nat} {D U k k' : Int} (hD : 0 < D) (a : IsCode p J D U k) (b : IsCode p J D U k') : k = k' := by
  have key : ∀ {k k' : Int}, IsCode p J D U k → IsCode p J D U k' → ¬ k < k' := fun {k k'} a b h => by
    obtain ⟨a0, a1, a2, a3⟩ := a
    obtain ⟨b0, b1, b2, b3⟩ := b
    have hu : U < val p (k + 1) * D := a3.resolve_left (by omega)
    have hm := val_mono p (k := k + 1) (by omega) (k' - (k + 1)).toNat
    have e : k + 1 + ((k' - (k + 1)).toNat : Int) = k' := by omega
    rw [e] at hm
    have : val p (k + 1) * D ≤ val p k' * D := Int.mul_le_mul_of_nonneg_right hm (by omega)
    omega
  have h1 := key a b
  have h2 := key b a
  omega
/-- the exponent's place above low; J + 1: beyond -/
def IsJ (p J : Nat) (D U : Int) (j : Nat) : Prop := j ≤ J + 1 ∧ (j = 0 ∨ D * 2 ^ (p - 1 + j) ≤ U) ∧ (j = J + 1 ∨ U < D * 2 ^ (p + j))
def beyond (w : Way) (N : Int) : Int := match w with
  | .zero => N - 1
  | .odd => N - 1 + N % 2
  | _ => N
/-- what the law tells -/
def toldL (w : Way) (s : Bool) (code e0 e1 x den : Int) : Int :=
  if (s = false ∧ x = e0 * den) ∨ w = .zero then code
  else if w = .out then code + 1
  else if w = .odd then code + 1 - code % 2
  else if 2 * x - (e0 + e1) * den = 0 ∧ s = false then code + (if w = .away ∨ code % 2 = 1 then 1 else 0)
  else code + (if 2 * x - (e0 + e1) * den > 0 ∨ (2 * x - (e0 + e1) * den = 0 ∧ s = true) then 1 else 0)
theorem toldL_eq (w : Way) (s : Bool) (k e0 e1 x den : Int) : toldL w s k e0 e1 x den = toldR w s k (x - e0 * den) ((e1 - e0) * den) := by
  have e : 2 * x - (e0 + e1) * den = 2 * (x - e0 * den) - (e1 - e0) * den := by
    rw [Int.add_mul, Int.sub_mul]; omega
  unfold toldL
  rw [e]
  have hz : x = e0 * den ↔ x - e0 * den = 0 := by omega
  simp only [hz]
  generalize x - e0 * den = r
  generalize (e1 - e0) * den = c
  cases w with
  | zero => rw [if_pos (.inr rfl)]; rfl
  | out =>
    show _ = if s = false ∧ r = 0 then k else k + 1
    by_cases h : s = false ∧ r = 0
    · rw [if_pos (.inl h), if_pos h]
    · rw [if_neg (fun z => z.elim h (fun q => nomatch q)), if_neg h, if_pos rfl]
  | odd =>
    show _ = if s = false ∧ r = 0 then k else k + 1 - k % 2
    by_cases h : s = false ∧ r = 0
    · rw [if_pos (.inl h), if_pos h]
    · rw [if_neg (fun z => z.elim h (fun q => nomatch q)), if_neg h, if_neg (fun q => nomatch q), if_pos rfl]
  | away =>
    show _ = if s = false ∧ r = 0 then k else if 2 * r ≥ c then k + 1 else k
    by_cases h : s = false ∧ r = 0
    · rw [if_pos (.inl h), if_pos h]
    · rw [if_neg (fun z => z.elim h (fun q => nomatch q)), if_neg h, if_neg (fun q => nomatch q), if_neg (fun q => nomatch q)]
      by_cases h2 : 2 * r - c = 0 ∧ s = false
      · rw [if_pos h2, if_pos (.inl rfl), if_pos (by omega)]
      · rw [if_neg h2]
        by_cases h3 : 2 * r ≥ c
        · rw [if_pos h3, if_pos ?_]
          cases s
          · exact .inl (by have n5 : ¬ (2 * r - c = 0) := fun q => h2 ⟨q, rfl⟩; omega)
          · by_cases h4 : 2 * r - c = 0
            · exact .inr ⟨h4, rfl⟩
            · exact .inl (by omega)
        · have n4 : ¬ (2 * r - c > 0 ∨ (2 * r - c = 0 ∧ s = true)) := by
            intro z
            rcases z with z | z
            · omega
            · have := z.1; omega
          rw [if_neg h3, if_neg n4]; omega
  | even =>
    show _ = if s = false ∧ r = 0 then k else if 2 * r = c ∧ s = false then k + k % 2 else if 2 * r ≥ c then k + 1 else k
    by_cases h : s = false ∧ r = 0
    · rw [if_pos (.inl h), if_pos h]
    · rw [if_neg (fun z => z.elim h (fun q => nomatch q)), if_neg h, if_neg (fun q => nomatch q), if_neg (fun q => nomatch q)]
      by_cases h2 : 2 * r - c = 0 ∧ s = false
      · rw [if_pos h2, if_pos (show 2 * r = c ∧ s = false from ⟨by omega, h2.2⟩)]
        by_cases h5 : k % 2 = 1
        · rw [if_pos (.inr h5), h5]
        · rw [if_neg (fun z => z.elim (fun q => nomatch q) h5)]; omega
      · rw [if_neg h2, if_neg (show ¬ (2 * r = c ∧ s = false) from fun z => h2 ⟨by omega, z.2⟩)]
        by_cases h3 : 2 * r ≥ c
        · rw [if_pos h3, if_pos ?_]
          cases s
          · exact .inl (by have n5 : ¬ (2 * r - c = 0) := fun q => h2 ⟨q, rfl⟩; omega)
          · by_cases h4 : 2 * r - c = 0
            · exact .inr ⟨h4, rfl⟩
            · exact .inl (by omega)
        · have n4 : ¬ (2 * r - c > 0 ∨ (2 * r - c = 0 ∧ s = true)) := by
            intro z
            rcases z with z | z
            · omega
            · have := z.1; omega
          rw [if_neg h3, if_neg n4]; omega
/-- the law's answer for U / D, of the code k -/
def lawTold (p : Nat) (w : Way) (s : Bool) (D U k : Int) : Int := toldL w s k (val p k) (val p (k + 1)) U D
/-- the position's line at U: n / c -/
def posN (p j : Nat) (D U : Int) : Int := U + (j : Int) * half p * (D * 2 ^ j)
def posC (j : Nat) (D : Int) : Int := D * 2 ^ j
theorem posC_pos {D : Int} (hD : 0 < D) (j : Nat) : 0 < posC j D := Int.mul_pos hD (p2pos j)
def readJ (p J : Nat) (w : Way) (D U : Int) (j : Nat) : Int := if j ≤ J then readF w (posN p j D U) (posC j D) else beyond w (many p J)
def upJ (p J : Nat) (w : Way) (D U : Int) (j : Nat) : Int := if j ≤ J then upF w (posN p j D U) (posC j D) else beyond w (many p J)
def halfJ (p J : Nat) (D U : Int) (j : Nat) : Int := if j ≤ J then halfF (posN p j D U) (posC j D) else beyond .odd (many p J) / 2
def belowJ (p J : Nat) (D U : Int) (j : Nat) : Int := if j ≤ J then belowF (posN p j D U) (posC j D) else beyond .odd (many p J) / 2
theorem pos_split {p j : Nat} {D U : Int} (hD : 0 < D) : posN p j D U / posC j D = (j : Int) * half p + U / posC j D ∧ posN p j D U % posC j D = U % posC j D := by
  have hc := posC_pos hD j
  have e : posN p j D U = U + ((j : Int) * half p) * posC j D := rfl
  rw [e, Int.add_mul_ediv_right _ _ (by omega), Int.add_mul_emod_self_right]
  exact ⟨by omega, rfl⟩
theorem p2half {p : Nat} (j : Nat) : (2 : Int) ^ (p - 1 + j) = half p * 2 ^ j := p2add _ _
theorem p2whole {p : Nat} (hp : 1 ≤ p) (j : Nat) : (2 : Int) ^ (p + j) = 2 * half p * 2 ^ j := by rw [p2add, half_two hp]
/-- in range: the mantissa -/
theorem mant {p J j : Nat} {D U : Int} (hp : 1 ≤ p) (hD : 0 < D) (hU : 0 ≤ U) (h : IsJ p J D U j) (hj : j ≤ J) : 0 ≤ U / posC j D ∧ U / posC j D < 2 * half p ∧ (j = 0 ∨ half p ≤ U / posC j D) := by
  have hc := posC_pos hD j
  obtain ⟨h0, h1, h2⟩ := h
  have h2 := h2.resolve_left (by omega)
  refine ⟨Int.ediv_nonneg hU (by omega), ?_, h1.elim .inl fun h1 => .inr ?_⟩
  · rw [Int.ediv_lt_iff_lt_mul hc]
    rw [p2whole hp] at h2
    show U < 2 * half p * (D * 2 ^ j)
    have : 2 * half p * (D * 2 ^ j) = D * (2 * half p * 2 ^ j) := Int.mul_left_comm _ _ _
    omega
  · rw [Int.le_ediv_iff_mul_le hc]
    rw [p2half] at h1
    show half p * (D * 2 ^ j) ≤ U
    have : half p * (D * 2 ^ j) = D * (half p * 2 ^ j) := Int.mul_left_comm _ _ _
    omega
theorem code_in {p J j : Nat} {D U : Int} (hp : 1 ≤ p) (hD : 0 < D) (hU : 0 ≤ U) (h : IsJ p J D U j) (hj : j ≤ J) :
    IsCode p J D U (posN p j D U / posC j D) ∧ val p (posN p j D U / posC j D) = U / posC j D * 2 ^ j ∧ val p (posN p j D U / posC j D + 1) = (U / posC j D + 1) * 2 ^ j := by
  obtain ⟨m0, m1, m2⟩ := mant hp hD hU h hj
  have hc := posC_pos hD j
  have hh := half_pos p
  rw [(pos_split (p := p) (U := U) hD).1]
  have a := val_at p j m0 (by omega) m2
  have b := val_at p j (m := U / posC j D + 1) (by omega) (by omega) (m2.elim .inl fun h => .inr (by omega))
  have e : (j : Int) * half p + U / posC j D + 1 = (j : Int) * half p + (U / posC j D + 1) := by omega
  obtain ⟨s1, s2, s3⟩ := split U hc
  have z0 : 0 ≤ (j : Int) * half p := Int.mul_nonneg (by omega) (by omega)
  have z1 : (j : Int) * half p ≤ (J : Int) * half p := Int.mul_le_mul_of_nonneg_right (by omega) (by omega)
  have em : many p J = (J : Int) * half p + 2 * half p := by unfold many; rw [Int.add_mul]
  refine ⟨⟨by omega, by omega, ?_, .inr ?_⟩, a, by rw [e, b]⟩
  · rw [a, Int.mul_assoc, Int.mul_comm (2 ^ j) D]
    show U / posC j D * posC j D ≤ U
    rw [Int.mul_comm]; omega
  · rw [e, b, Int.mul_assoc, Int.mul_comm (2 ^ j) D]
    show U < (U / posC j D + 1) * posC j D
    rw [Int.add_mul, Int.one_mul, Int.mul_comm (U / posC j D)]; omega
theorem code_out {p J : Nat} {D U : Int} (hp : 1 ≤ p) (hD : 0 < D) (h : D * 2 ^ (p - 1 + (J + 1)) ≤ U) :
    IsCode p J D U (many p J - 1) ∧ val p (many p J - 1) = (2 * half p - 1) * 2 ^ J ∧ val p (many p J) = 2 * half p * 2 ^ J := by
  have hh := half_pos p
  have em : many p J = (J : Int) * half p + 2 * half p := by unfold many; rw [Int.add_mul]
  have a := val_at p J (m := 2 * half p - 1) (by omega) (by omega) (.inr (by omega))
  have b := val_at p J (m := 2 * half p) (by omega) (by omega) (.inr (by omega))
  have e1 : many p J - 1 = (J : Int) * half p + (2 * half p - 1) := by omega
  have h2 := many_pos p J
  refine ⟨⟨by omega, by omega, ?_, .inl rfl⟩, by rw [e1, a], by rw [em, b]⟩
  rw [e1, a]
  have e3 : p - 1 + (J + 1) = p + J := by omega
  rw [e3, p2whole hp] at h
  have e4 : (2 * half p - 1) * 2 ^ J * D = D * (2 * half p * 2 ^ J) - D * 2 ^ J := by
    rw [Int.sub_mul, Int.one_mul, Int.sub_mul, Int.mul_comm D, Int.mul_comm D]
  have := posC_pos hD J
  unfold posC at this
  omega
/-- the law tells what the position is read as -/
theorem lawTold_read {p J j : Nat} {D U k : Int} (w : Way) (hp : 1 ≤ p) (hD : 0 < D) (hU : 0 ≤ U) (h : IsJ p J D U j) (hk : IsCode p J D U k) : lawTold p w false D U k = readJ p J w D U j ∧ lawTold p w true D U k = upJ p J w D U j := by
  unfold lawTold readJ upJ
  by_cases hj : j ≤ J
  · rw [if_pos hj, if_pos hj]
    obtain ⟨a, b, c⟩ := code_in hp hD hU h hj
    have ek := isCode_unique hD hk a
    have hc := posC_pos hD j
    rw [readF_of w _ hc, upF_of w _ hc, ek, toldL_eq, toldL_eq, b, c]
    have e1 : (U / posC j D + 1) * 2 ^ j - U / posC j D * 2 ^ j = 2 ^ j := by rw [Int.add_mul, Int.one_mul]; omega
    have e2 : U - U / posC j D * 2 ^ j * D = posN p j D U % posC j D := by
      rw [(pos_split (p := p) (U := U) hD).2, Int.mul_assoc, Int.mul_comm (2 ^ j) D]
      show U - U / posC j D * posC j D = _
      have := split U hc
      rw [Int.mul_comm]; omega
    rw [e1, e2, Int.mul_comm (2 ^ j) D]
    exact ⟨rfl, rfl⟩
  · rw [if_neg hj, if_neg hj]
    have ej : j = J + 1 := by have := h.1; omega
    subst ej
    have hb := h.2.1.resolve_left (by omega)
    obtain ⟨a, b, b'⟩ := code_out hp hD hb
    have ek := isCode_unique hD hk a
    have e0 : many p J - 1 + 1 = many p J := by omega
    rw [ek, toldL_eq, toldL_eq, e0, b, b']
    have e1 : 2 * half p * 2 ^ J - (2 * half p - 1) * 2 ^ J = 2 ^ J := by rw [← Int.sub_mul]; rw [show 2 * half p - (2 * half p - 1) = 1 by omega, Int.one_mul]
    have hc := posC_pos hD J
    have hr : posC J D ≤ U - (2 * half p - 1) * 2 ^ J * D := by
      have e3 : p - 1 + (J + 1) = p + J := by omega
      rw [e3, p2whole hp] at hb
      have e4 : (2 * half p - 1) * 2 ^ J * D = D * (2 * half p * 2 ^ J) - D * 2 ^ J := by
        rw [Int.sub_mul, Int.one_mul, Int.sub_mul, Int.mul_comm D, Int.mul_comm D]
      unfold posC at hc ⊢
      omega
    rw [e1, Int.mul_comm (2 ^ J) D]
    show toldR w false _ (U - (2 * half p - 1) * 2 ^ J * D) (posC J D) = _ ∧ toldR w true _ (U - (2 * half p - 1) * 2 ^ J * D) (posC J D) = _
    generalize U - (2 * half p - 1) * 2 ^ J * D = r at *
    generalize posC J D = c at *
    have n1 : ∀ s : Bool, ¬ (s = false ∧ r = 0) := fun s z => by omega
    have n2 : ∀ s : Bool, ¬ (2 * r = c ∧ s = false) := fun s z => by omega
    have n3 : 2 * r ≥ c := by omega
    have go : ∀ s : Bool, toldR w s (many p J - 1) r c = beyond w (many p J) := fun s => by
      generalize many p J = N at *
      cases w with
      | zero => rfl
      | out =>
        show (if s = false ∧ r = 0 then N - 1 else N - 1 + 1) = N
        rw [if_neg (n1 s)]; omega
      | odd =>
        show (if s = false ∧ r = 0 then N - 1 else N - 1 + 1 - (N - 1) % 2) = N - 1 + N % 2
        rw [if_neg (n1 s)]; omega
      | away =>
        show (if s = false ∧ r = 0 then N - 1 else if 2 * r ≥ c then N - 1 + 1 else N - 1) = N
        rw [if_neg (n1 s), if_pos n3]; omega
      | even =>
        show (if s = false ∧ r = 0 then N - 1 else if 2 * r = c ∧ s = false then N - 1 + (N - 1) % 2 else if 2 * r ≥ c then N - 1 + 1 else N - 1) = N
        rw [if_neg (n1 s), if_neg (n2 s), if_pos n3]; omega
    exact ⟨go false, go true⟩
end K45
/-! ## MDiff -/
namespace K45
/-- two positions n <= m over C, less than a half apart -/
structure Near (n m C : Int) : Prop where
  c0 : 0 < C
  le : n ≤ m
  lt : 2 * (m - n) < C
/-- the parts of both -/
theorem near_parts {n m C : Int} (h : Near n m C) : (m / C = n / C ∧ m % C - n % C = m - n) ∨ (m / C = n / C + 1 ∧ C + m % C - n % C = m - n) := by
  obtain ⟨c0, le, lt⟩ := h
  obtain ⟨a1, a2, a3⟩ := split n c0
  obtain ⟨b1, b2, b3⟩ := split m c0
  generalize n / C = q at *
  generalize n % C = r at *
  generalize m / C = q' at *
  generalize m % C = r' at *
  have hq : C * (q' - q) = m - n - (r' - r) := by rw [Int.mul_sub]; omega
  have h1 : -1 < q' - q := by
    have : C * (-1) < C * (q' - q) := by rw [hq, Int.mul_neg, Int.mul_one]; omega
    exact Int.lt_of_mul_lt_mul_left this (by omega)
  have h2 : q' - q < 2 := by
    have : C * (q' - q) < C * 2 := by rw [hq]; omega
    exact Int.lt_of_mul_lt_mul_left this (by omega)
  rcases (show q' - q = 0 ∨ q' - q = 1 by omega) with h | h
  · rw [h, Int.mul_zero] at hq; exact .inl ⟨by omega, by omega⟩
  · rw [h, Int.mul_one] at hq; exact .inr ⟨by omega, by omega⟩
theorem away_told (s : Bool) {k r c : Int} (h0 : 0 ≤ r) (hc : 0 < c) : toldR .away s k r c = if 2 * r ≥ c then k + 1 else k := by
  show (if s = false ∧ r = 0 then k else if 2 * r ≥ c then k + 1 else k) = _
  by_cases h : s = false ∧ r = 0
  · rw [if_pos h, if_neg (by omega)]
  · rw [if_neg h]
theorem even_told_up {k r c : Int} : toldR .even true k r c = if 2 * r ≥ c then k + 1 else k := by
  show (if true = false ∧ r = 0 then k else if 2 * r = c ∧ true = false then k + k % 2 else if 2 * r ≥ c then k + 1 else k) = _
  rw [if_neg (fun z => Bool.noConfusion z.1), if_neg (fun z => Bool.noConfusion z.2)]
theorem even_told {k r c : Int} (h0 : 0 ≤ r) (hc : 0 < c) : toldR .even false k r c = if 2 * r = c then k + k % 2 else if 2 * r ≥ c then k + 1 else k := by
  show (if false = false ∧ r = 0 then k else if 2 * r = c ∧ false = false then k + k % 2 else if 2 * r ≥ c then k + 1 else k) = _
  by_cases h : r = 0
  · rw [if_pos ⟨rfl, h⟩, if_neg (by omega), if_neg (by omega)]
  · rw [if_neg (fun z => h z.2)]
    by_cases h2 : 2 * r = c
    · rw [if_pos ⟨h2, rfl⟩, if_pos h2]
    · rw [if_neg (fun z => h2 z.1), if_neg h2]
theorem out_told_up {k r c : Int} : toldR .out true k r c = k + 1 := by
  show (if true = false ∧ r = 0 then k else k + 1) = _
  rw [if_neg (fun z => Bool.noConfusion z.1)]
theorem out_told {k r c : Int} : toldR .out false k r c = if r = 0 then k else k + 1 := by
  show (if false = false ∧ r = 0 then k else k + 1) = _
  by_cases h : r = 0
  · rw [if_pos ⟨rfl, h⟩, if_pos h]
  · rw [if_neg (fun z => h z.2), if_neg h]
theorem odd_told_up {k r c : Int} : toldR .odd true k r c = k + 1 - k % 2 := by
  show (if true = false ∧ r = 0 then k else k + 1 - k % 2) = _
  rw [if_neg (fun z => Bool.noConfusion z.1)]
theorem odd_told {k r c : Int} : toldR .odd false k r c = if r = 0 then k else k + 1 - k % 2 := by
  show (if false = false ∧ r = 0 then k else k + 1 - k % 2) = _
  by_cases h : r = 0
  · rw [if_pos ⟨rfl, h⟩, if_pos h]
  · rw [if_neg (fun z => h z.2), if_neg h]
/-- the true value above the run's: read above told, by one at most -/
theorem step_above {w : Way} {n m C : Int} (hw : w ≠ .odd) (h : Near n m C) (hn : n < m) : 0 ≤ readF w m C - upF w n C ∧ readF w m C - upF w n C ≤ 1 := by
  have c0 := h.c0
  have hp := near_parts h
  obtain ⟨a1, a2, a3⟩ := split n c0
  obtain ⟨b1, b2, b3⟩ := split m c0
  have hlt := h.lt
  rw [readF_of w m c0, upF_of w n c0]
  generalize n / C = q at *
  generalize n % C = r at *
  generalize m / C = q' at *
  generalize m % C = r' at *
  cases w with
  | zero =>
    show 0 ≤ q' - q ∧ q' - q ≤ 1
    omega
  | out =>
    rw [out_told, out_told_up]
    split <;> omega
  | odd => exact absurd rfl hw
  | away =>
    rw [away_told _ b2 c0, away_told _ a2 c0]
    split <;> split <;> omega
  | even =>
    rw [even_told b2 c0, even_told_up]
    split <;> split <;> (try split) <;> omega
/-- the same value: told above read, by one at most -/
theorem step_same {w : Way} {n C : Int} (hw : w ≠ .odd) (c0 : 0 < C) : 0 ≤ upF w n C - readF w n C ∧ upF w n C - readF w n C ≤ 1 := by
  obtain ⟨a1, a2, a3⟩ := split n c0
  rw [readF_of w n c0, upF_of w n c0]
  generalize n / C = q at *
  generalize n % C = r at *
  cases w with
  | zero =>
    show 0 ≤ q - q ∧ q - q ≤ 1
    omega
  | out =>
    rw [out_told, out_told_up]
    split <;> omega
  | odd => exact absurd rfl hw
  | away =>
    rw [away_told _ a2 c0, away_told _ a2 c0]
    split <;> omega
  | even =>
    rw [even_told a2 c0, even_told_up]
    split <;> (try split) <;> omega
theorem odd_above {n m C : Int} (h : Near n m C) (hn : n < m) : (0 ≤ halfF m C - halfF n C ∧ halfF m C - halfF n C ≤ 1) ∧ (upF .odd n C ≠ readF .odd m C ↔ halfF n C ≠ halfF m C) := by
  have c0 := h.c0
  have hp := near_parts h
  obtain ⟨a1, a2, a3⟩ := split n c0
  obtain ⟨b1, b2, b3⟩ := split m c0
  have hlt := h.lt
  rw [readF_of _ m c0, upF_of _ n c0, halfF_of m c0, halfF_of n c0, odd_told, odd_told_up]
  generalize n / C = q at *
  generalize n % C = r at *
  generalize m / C = q' at *
  generalize m % C = r' at *
  split <;> omega
theorem odd_same {n C : Int} (c0 : 0 < C) : (0 ≤ halfF n C - belowF n C ∧ halfF n C - belowF n C ≤ 1) ∧ (upF .odd n C ≠ readF .odd n C ↔ halfF n C ≠ belowF n C) := by
  obtain ⟨a1, a2, a3⟩ := split n c0
  rw [readF_of _ n c0, upF_of _ n c0, halfF_of n c0, belowF_of n c0, odd_told, odd_told_up]
  generalize n / C = q at *
  generalize n % C = r at *
  split <;> split <;> omega
/-- just below what is beyond -/
theorem below_beyond {n C N : Int} (c0 : 0 < C) (h1 : n < N * C) (h2 : 2 * (N * C - n) < C) (w : Way) : upF w n C = beyond w N ∧ halfF n C = beyond .odd N / 2 := by
  obtain ⟨a1, a2, a3⟩ := split n c0
  have hq : n / C = N - 1 := by
    refine div_is c0 ?_ ?_ <;> rw [Int.mul_sub, Int.mul_one, Int.mul_comm C N] <;> omega
  have hr : 2 * (n % C) ≥ C := by
    rw [hq, Int.mul_sub, Int.mul_one, Int.mul_comm C N] at a1; omega
  rw [upF_of w n c0, halfF_of n c0, hq]
  generalize n % C = r at *
  constructor
  · cases w with
    | zero => rfl
    | out =>
      rw [out_told_up]
      show N - 1 + 1 = N
      omega
    | odd =>
      rw [odd_told_up]
      show N - 1 + 1 - (N - 1) % 2 = N - 1 + N % 2
      omega
    | away =>
      rw [away_told _ a2 c0, if_pos hr]
      show N - 1 + 1 = N
      omega
    | even =>
      rw [even_told_up, if_pos hr]
      show N - 1 + 1 = N
      omega
  · show (N - 1) / 2 = (N - 1 + N % 2) / 2
    omega
/-! ### two slopes at one number, over one denominator -/
structure Two (p J : Nat) (D u v : Int) (i j : Nat) : Prop where
  hp : 1 ≤ p
  hD : 0 < D
  u0 : 0 < u
  le : u ≤ v
  fine : 2 * 2 ^ p * (v - u) ≤ u
  hu : IsJ p J D u i
  hv : IsJ p J D v j
theorem Two.small {p J : Nat} {D u v : Int} {i j : Nat} (t : Two p J D u v i j) : 4 * (v - u) ≤ u := by
  obtain ⟨hp, hD, u0, le, fine, hu, hv⟩ := t
  have h2 : (2 : Int) ≤ 2 ^ p := by
    have := p2mono hp
    simpa using this
  have h3 : 2 * (2 : Int) ≤ 2 * 2 ^ p := by omega
  have : 2 * (2 : Int) * (v - u) ≤ 2 * 2 ^ p * (v - u) := Int.mul_le_mul_of_nonneg_right h3 (by omega)
  omega
theorem Two.step {p J : Nat} {D u v : Int} {i j : Nat} (t : Two p J D u v i j) : j = i ∨ j = i + 1 := by
  have hs := t.small
  obtain ⟨hp, hD, u0, le, fine, ⟨u1, u2, u3⟩, ⟨v1, v2, v3⟩⟩ := t
  have dm : ∀ {a b : Nat}, a ≤ b → D * 2 ^ a ≤ D * 2 ^ b := fun h => Int.mul_le_mul_of_nonneg_left (p2mono h) (by omega)
  have hij : ¬ j < i := fun h => by
    have a1 := u2.resolve_left (by omega)
    have a2 := v3.resolve_left (by omega)
    have := dm (a := p + j) (b := p - 1 + i) (by omega)
    omega
  have hji : ¬ i + 1 < j := fun h => by
    have a1 := u3.resolve_left (by omega)
    have a2 := v2.resolve_left (by omega)
    have := dm (a := p + i + 1) (b := p - 1 + j) (by omega)
    rw [p2succ, Int.mul_left_comm] at this
    omega
  omega
/-- below the line of its exponent: the distance is less than half a step -/
theorem Two.dist {p J : Nat} {D u v : Int} {i j : Nat} (t : Two p J D u v i j) (h : u < D * 2 ^ (p + i)) : 2 * (v - u) < posC i D := by
  obtain ⟨hp, hD, u0, le, fine, _, _⟩ := t
  have e : D * 2 ^ (p + i) = 2 ^ p * posC i D := by
    unfold posC
    rw [p2add, Int.mul_left_comm]
  have e2 : 2 * 2 ^ p * (v - u) = 2 ^ p * (2 * (v - u)) := by rw [Int.mul_comm 2 (2 ^ p), Int.mul_assoc]
  have : 2 ^ p * (2 * (v - u)) < 2 ^ p * posC i D := by omega
  exact Int.lt_of_mul_lt_mul_left this (by have := p2pos p; omega)
theorem posN_eq (p j : Nat) (D U : Int) : posN p j D U = U + ((j : Int) * half p) * posC j D := rfl
theorem posC_succ (j : Nat) (D : Int) : posC (j + 1) D = 2 * posC j D := by
  unfold posC
  rw [p2succ, Int.mul_left_comm]
/-- in range both: two near positions over one denominator -/
theorem Two.near {p J : Nat} {D u v : Int} {i j : Nat} (t : Two p J D u v i j) (hj : j ≤ J) :
    ∃ n m C, Near n m C ∧ (u < v → n < m) ∧ (u = v → n = m) ∧ (∀ w, upF w (posN p i D u) (posC i D) = upF w n C) ∧ halfF (posN p i D u) (posC i D) = halfF n C ∧
      (∀ w, readF w (posN p j D v) (posC j D) = readF w m C) ∧ halfF (posN p j D v) (posC j D) = halfF m C := by
  have hst := t.step
  have hi : i ≤ J := by omega
  have hu3 := t.hu.2.2.resolve_left (by omega)
  have hd := t.dist hu3
  have hc := posC_pos t.hD i
  have le := t.le
  rcases hst with rfl | rfl
  · refine ⟨posN p j D u, posN p j D v, posC j D, ⟨hc, ?_, ?_⟩, fun h => ?_, fun h => by rw [h], fun _ => rfl, rfl, fun _ => rfl, rfl⟩
    · rw [posN_eq, posN_eq]; omega
    · rw [posN_eq, posN_eq]; omega
    · rw [posN_eq, posN_eq]; omega
  · have hv2 := t.hv.2.1.resolve_left (by omega)
    have e1 : p - 1 + (i + 1) = p + i := by have := t.hp; omega
    rw [e1] at hv2
    have e2 : D * 2 ^ (p + i) = 2 * (half p * posC i D) := by
      unfold posC
      rw [p2whole t.hp, Int.mul_assoc, Int.mul_left_comm, Int.mul_left_comm D]
    have hcc := posC_succ i D
    have e3 : posN p (i + 1) D v = v + 2 * ((i : Int) * half p * posC i D) + 2 * (half p * posC i D) := by
      rw [posN_eq, hcc]
      have : ((i + 1 : Nat) : Int) = (i : Int) + 1 := by omega
      rw [this, Int.add_mul, Int.one_mul, Int.add_mul, Int.mul_left_comm, Int.mul_left_comm (half p)]
      omega
    have e4 : 2 * posN p i D u = 2 * u + 2 * ((i : Int) * half p * posC i D) := by
      rw [posN_eq, Int.mul_add]
    have c2 : 0 < posC (i + 1) D := by omega
    have fr : posN p i D u * posC (i + 1) D = 2 * posN p i D u * posC i D := by
      rw [hcc, Int.mul_left_comm, Int.mul_assoc]
    refine ⟨2 * posN p i D u, posN p (i + 1) D v, posC (i + 1) D, ⟨c2, ?_, ?_⟩, fun h => ?_, fun h => ?_, fun w => upF_frac w hc c2 fr, halfF_frac hc c2 fr, fun _ => rfl, rfl⟩
    · rw [e3, e4]; omega
    · rw [e3, e4, hcc]; omega
    · rw [e3, e4]; omega
    · omega
theorem Two.beyond_in {p J : Nat} {D u v : Int} {i j : Nat} (t : Two p J D u v i j) (hj : ¬ j ≤ J) (hi : i ≤ J) (w : Way) : upF w (posN p i D u) (posC i D) = beyond w (many p J) ∧ halfF (posN p i D u) (posC i D) = beyond .odd (many p J) / 2 := by
  have hst := t.step
  have hj1 := t.hv.1
  have ei : i = J := by omega
  subst ei
  have hu3 := t.hu.2.2.resolve_left (by omega)
  have hd := t.dist hu3
  have hc := posC_pos t.hD i
  have ej : j = i + 1 := by omega
  subst ej
  have hv2 := t.hv.2.1.resolve_left (by omega)
  have e1 : p - 1 + (i + 1) = p + i := by have := t.hp; omega
  rw [e1] at hv2
  have e2 : D * 2 ^ (p + i) = 2 * (half p * posC i D) := by
    unfold posC
    rw [p2whole t.hp, Int.mul_assoc, Int.mul_left_comm, Int.mul_left_comm D]
  have em : many p i * posC i D = (i : Int) * half p * posC i D + 2 * (half p * posC i D) := by
    unfold many
    rw [Int.add_mul, Int.add_mul, Int.mul_assoc 2]
  refine below_beyond hc ?_ ?_ w
  · rw [em, posN_eq]; omega
  · rw [em, posN_eq]; omega
/-- above: the steps -/
theorem Two.above {p J : Nat} {D u v : Int} {i j : Nat} (t : Two p J D u v i j) (h : u < v) {w : Way} (hw : w ≠ .odd) : 0 ≤ readJ p J w D v j - upJ p J w D u i ∧ readJ p J w D v j - upJ p J w D u i ≤ 1 := by
  have hst := t.step
  unfold readJ upJ
  by_cases hj : j ≤ J
  · rw [if_pos hj, if_pos (show i ≤ J by omega)]
    obtain ⟨n, m, C, hN, h1, _, h3, _, h5, _⟩ := t.near hj
    rw [h3, h5]
    exact step_above hw hN (h1 h)
  · rw [if_neg hj]
    by_cases hi : i ≤ J
    · rw [if_pos hi, (t.beyond_in hj hi w).1]; omega
    · rw [if_neg hi]; omega
theorem Two.above_odd {p J : Nat} {D u v : Int} {i j : Nat} (t : Two p J D u v i j) (h : u < v) : (0 ≤ halfJ p J D v j - halfJ p J D u i ∧ halfJ p J D v j - halfJ p J D u i ≤ 1) ∧
    (upJ p J .odd D u i ≠ readJ p J .odd D v j ↔ halfJ p J D u i ≠ halfJ p J D v j) := by
  have hst := t.step
  unfold readJ upJ halfJ
  by_cases hj : j ≤ J
  · rw [if_pos hj, if_pos hj, if_pos (show i ≤ J by omega), if_pos (show i ≤ J by omega)]
    obtain ⟨n, m, C, hN, h1, _, h3, h4, h5, h6⟩ := t.near hj
    rw [h3, h4, h5, h6]
    exact odd_above hN (h1 h)
  · rw [if_neg hj, if_neg hj]
    by_cases hi : i ≤ J
    · obtain ⟨q1, q2⟩ := t.beyond_in hj hi .odd
      rw [if_pos hi, if_pos hi, q1, q2]
      exact ⟨by omega, fun z => absurd rfl z, fun z => absurd rfl z⟩
    · rw [if_neg hi, if_neg hi]
      exact ⟨by omega, fun z => absurd rfl z, fun z => absurd rfl z⟩
/-- the same value -/
theorem same_step {p J : Nat} {D u : Int} {i : Nat} (hD : 0 < D) {w : Way} (hw : w ≠ .odd) : 0 ≤ upJ p J w D u i - readJ p J w D u i ∧ upJ p J w D u i - readJ p J w D u i ≤ 1 := by
  unfold readJ upJ
  by_cases hi : i ≤ J
  · rw [if_pos hi, if_pos hi]
    exact step_same hw (posC_pos hD i)
  · rw [if_neg hi, if_neg hi]; omega
theorem same_odd {p J : Nat} {D u : Int} {i : Nat} (hD : 0 < D) : (0 ≤ halfJ p J D u i - belowJ p J D u i ∧ halfJ p J D u i - belowJ p J D u i ≤ 1) ∧
    (upJ p J .odd D u i ≠ readJ p J .odd D u i ↔ halfJ p J D u i ≠ belowJ p J D u i) := by
  unfold readJ upJ halfJ belowJ
  by_cases hi : i ≤ J
  · rw [if_pos hi, if_pos hi, if_pos hi, if_pos hi]
    exact odd_same (posC_pos hD i)
  · rw [if_neg hi, if_neg hi, if_neg hi, if_neg hi]
    exact ⟨by omega, fun z => absurd rfl z, fun z => absurd rfl z⟩
end K45
/-! ## MForm -/
namespace K45
/-- 2 ** max(0, z) -/
def pp (z : Int) : Int := 2 ^ z.toNat
theorem pp_pos (z : Int) : 0 < pp z := p2pos _
theorem pp_neg {z : Int} (h : z ≤ 0) : pp z = 1 := by
  unfold pp
  rw [show z.toNat = 0 by omega]; rfl
/-- num / den is at least 2 ** t -/
def Ge2 (num den t : Int) : Prop := den * pp t ≤ num * pp (-t)
instance (num den t : Int) : Decidable (Ge2 num den t) := by unfold Ge2; infer_instance
theorem le_cancel {a b k : Int} (hk : 0 < k) : a * k ≤ b * k ↔ a ≤ b := ⟨fun h => Int.le_of_mul_le_mul_right h hk, fun h => Int.mul_le_mul_of_nonneg_right h (by omega)⟩
theorem eq_cancel {a b k : Int} (hk : 0 < k) : a * k = b * k ↔ a = b := ⟨fun h => Int.eq_of_mul_eq_mul_right (by omega) h, fun h => by rw [h]⟩
/-- 2 ** a / 2 ** b by a - b alone -/
theorem ge2_by {num den t : Int} (a b : Nat) (h : (a : Int) - b = t) : Ge2 num den t ↔ den * 2 ^ a ≤ num * 2 ^ b := by
  unfold Ge2
  unfold pp
  by_cases ht : 0 ≤ t
  · have e1 : t.toNat + b = a := by omega
    have e2 : (-t).toNat = 0 := by omega
    rw [e2, ← e1, p2add, ← Int.mul_assoc, le_cancel (p2pos b), Int.pow_zero, Int.mul_one]
  · have e1 : (-t).toNat + a = b := by omega
    have e2 : t.toNat = 0 := by omega
    rw [e2, ← e1, p2add, ← Int.mul_assoc, le_cancel (p2pos a), Int.pow_zero, Int.mul_one]
theorem ge2_mono {num den s t : Int} (hn : 0 < num) (hd : 0 < den) (h : s ≤ t) (g : Ge2 num den t) : Ge2 num den s := by
  obtain ⟨a, b, e⟩ : ∃ a b : Nat, (a : Int) - b = t := ⟨t.toNat, (-t).toNat, by omega⟩
  obtain ⟨d, hd2⟩ : ∃ d : Nat, t - s = d := ⟨(t - s).toNat, by omega⟩
  rw [ge2_by a b e] at g
  rw [ge2_by a (b + d) (by omega)]
  have : num * 2 ^ b ≤ num * 2 ^ (b + d) := Int.mul_le_mul_of_nonneg_left (p2mono (by omega)) (by omega)
  omega
/-- bits of a number -/
def bits (x : Int) : Nat := if x == 0 then 0 else x.natAbs.log2 + 1
theorem bits_spec {x : Int} (h : 0 < x) : 1 ≤ bits x ∧ 2 ^ (bits x - 1) ≤ x ∧ x < 2 ^ bits x := by
  unfold bits
  rw [if_neg (by simp; omega)]
  obtain ⟨n, rfl⟩ : ∃ n : Nat, x = (n : Int) := ⟨x.toNat, by omega⟩
  rw [Int.natAbs_natCast]
  have h1 := Nat.log2_self_le (n := n) (by omega)
  have h2 : n < 2 ^ (n.log2 + 1) := Nat.lt_log2_self
  refine ⟨by omega, ?_, ?_⟩
  · have e : n.log2 + 1 - 1 = n.log2 := by omega
    rw [e]
    have : ((2 ^ n.log2 : Nat) : Int) ≤ (n : Int) := by omega
    rwa [Int.natCast_pow] at this
  · have : (n : Int) < ((2 ^ (n.log2 + 1) : Nat) : Int) := by omega
    rwa [Int.natCast_pow] at this
def floorLog (num den : Int) : Int := if (den * pp ((bits num : Int) - bits den) ≤ num * pp (-((bits num : Int) - bits den))) then (bits num : Int) - bits den else (bits num : Int) - bits den - 1
theorem floorLog_spec {num den : Int} (hn : 0 < num) (hd : 0 < den) : Ge2 num den (floorLog num den) ∧ ¬ Ge2 num den (floorLog num den + 1) := by
  obtain ⟨a1, a2, a3⟩ := bits_spec hn
  obtain ⟨b1, b2, b3⟩ := bits_spec hd
  generalize ha : bits num = a at *
  generalize hb : bits den = b at *
  have up : ¬ Ge2 num den ((a : Int) - b + 1) := by
    rw [ge2_by (a + 1) b (by omega)]
    intro h
    have h1 : (2 : Int) ^ (b - 1) * 2 ^ (a + 1) ≤ den * 2 ^ (a + 1) := Int.mul_le_mul_of_nonneg_right b2 (by have := p2pos (a + 1); omega)
    have h2 : num * 2 ^ b < 2 ^ a * 2 ^ b := Int.mul_lt_mul_of_pos_right a3 (p2pos b)
    rw [← p2add] at h1 h2
    have e : b - 1 + (a + 1) = a + b := by omega
    rw [e] at h1
    omega
  have dn : Ge2 num den ((a : Int) - b - 1) := by
    rw [ge2_by a (b + 1) (by omega)]
    have h1 : den * 2 ^ a < 2 ^ b * 2 ^ a := Int.mul_lt_mul_of_pos_right b3 (p2pos a)
    have h2 : (2 : Int) ^ (a - 1) * 2 ^ (b + 1) ≤ num * 2 ^ (b + 1) := Int.mul_le_mul_of_nonneg_right a2 (by have := p2pos (b + 1); omega)
    rw [← p2add] at h1 h2
    have e : a - 1 + (b + 1) = b + a := by omega
    rw [e] at h2
    omega
  unfold floorLog
  rw [ha, hb]
  split
  · rename_i h
    exact ⟨h, up⟩
  · rename_i h
    refine ⟨dn, ?_⟩
    have e : (a : Int) - b - 1 + 1 = a - b := by omega
    rw [e]
    exact h
/-- a format -/
structure Fo where
  p : Nat
  low : Int
  J : Nat
def Fo.high (f : Fo) : Int := f.low + f.J
def Fo.many (f : Fo) : Int := K45.many f.p f.J
/-- a slope -/
structure Sl where
  num : Int
  den : Int
structure Sl.Ok (s : Sl) : Prop where
  n0 : 0 < s.num
  d0 : 0 < s.den
/-- the fraction in units of the least step -/
def Sl.A (f : Fo) (s : Sl) : Int := s.num * pp (-f.low)
def Sl.D (f : Fo) (s : Sl) : Int := s.den * pp f.low
theorem Sl.Ok.A0 {f : Fo} {s : Sl} (h : s.Ok) : 0 < s.A f := Int.mul_pos h.n0 (pp_pos _)
theorem Sl.Ok.D0 {f : Fo} {s : Sl} (h : s.Ok) : 0 < s.D f := Int.mul_pos h.d0 (pp_pos _)
def expOf (f : Fo) (num den : Int) : Int := min (f.high + 1) (max f.low (floorLog num den - f.p + 1))
/-- 2 ** (low + i) below the fraction -/
theorem ge2_unit {f : Fo} {num den : Int} (i : Nat) : Ge2 num den (f.low + i) ↔ (den * pp f.low) * 2 ^ i ≤ num * pp (-f.low) := by
  rw [ge2_by (f.low.toNat + i) ((-f.low).toNat) (by omega), p2add, ← Int.mul_assoc]
  exact Iff.rfl
theorem expOf_range (f : Fo) (num den : Int) : f.low ≤ expOf f num den ∧ expOf f num den ≤ f.high + 1 := by
  unfold expOf Fo.high
  omega
theorem expOf_isJ {f : Fo} {num den : Int} (hp : 1 ≤ f.p) (hn : 0 < num) (hd : 0 < den) : IsJ f.p f.J (den * pp f.low) (num * pp (-f.low)) (expOf f num den - f.low).toNat := by
  obtain ⟨g1, g2⟩ := floorLog_spec hn hd
  have hr := expOf_range f num den
  have hh : f.high = f.low + f.J := rfl
  refine ⟨by omega, ?_, ?_⟩
  · by_cases h : (expOf f num den - f.low).toNat = 0
    · exact .inl h
    · refine .inr ?_
      have hle : expOf f num den ≤ floorLog num den - f.p + 1 := by
        unfold expOf at h ⊢
        omega
      have g3 := ge2_mono hn hd (s := f.low + ((f.p - 1 + (expOf f num den - f.low).toNat : Nat) : Int)) (by omega) g1
      exact (ge2_unit (f := f) _).mp g3
  · by_cases h : (expOf f num den - f.low).toNat = f.J + 1
    · exact .inl h
    · refine .inr ?_
      have hle : floorLog num den - f.p + 1 ≤ expOf f num den := by
        unfold expOf at h ⊢
        omega
      refine Int.not_le.mp fun z => g2 ?_
      have g3 := (ge2_unit (f := f) (num := num) (den := den) (f.p + (expOf f num den - f.low).toNat)).mpr z
      exact ge2_mono hn hd (by omega) g3
/-! ### kinds of stairs -/
inductive Kind where
  | read | up | half | below
  deriving DecidableEq
structure Line where
  a : Int
  b : Int
  c : Int
def kindStair (k : Kind) (w : Way) (l : Line) : List Line := match k with
  | .read => match w with
    | .even => [⟨2 * l.a, 2 * l.b + l.c, 4 * l.c⟩, ⟨2 * l.a, 2 * l.b + 3 * l.c - 1, 4 * l.c⟩]
    | .away => [⟨2 * l.a, 2 * l.b + l.c, 2 * l.c⟩]
    | .zero => [l]
    | .out => [⟨l.a, l.b + l.c - 1, l.c⟩]
    | .odd => [⟨l.a, l.b, 2 * l.c⟩, ⟨l.a, l.b + 2 * l.c - 1, 2 * l.c⟩]
  | .up => match w with
    | .even => [⟨2 * l.a, 2 * l.b + l.c, 2 * l.c⟩]
    | .away => [⟨2 * l.a, 2 * l.b + l.c, 2 * l.c⟩]
    | .zero => [l]
    | .out => [⟨l.a, l.b + l.c, l.c⟩]
    | .odd => [⟨l.a, l.b, 2 * l.c⟩, ⟨l.a, l.b + 2 * l.c, 2 * l.c⟩]
  | .half => [⟨l.a, l.b, 2 * l.c⟩]
  | .below => [⟨l.a, l.b - 1, 2 * l.c⟩]
def stairAt (st : List Line) (x : Int) : Int := (st.map fun l => lv l.a l.b l.c x).sum
def kindF (k : Kind) (w : Way) (n c : Int) : Int := match k with
  | .read => readF w n c
  | .up => upF w n c
  | .half => halfF n c
  | .below => belowF n c
theorem kindStair_at (k : Kind) (w : Way) (l : Line) (x : Int) : stairAt (kindStair k w l) x = kindF k w (l.a * x + l.b) l.c := by
  have e2 : 2 * l.a * x = 2 * (l.a * x) := Int.mul_assoc _ _ _
  have z : ∀ u v : Int, u = v → u + 0 = v := fun u v h => by omega
  have z2 : ∀ u v u' v' : Int, u = u' → v = v' → u + (v + 0) = u' + v' := fun u v u' v' h h' => by omega
  cases k with
  | read =>
    cases w with
    | even =>
      refine z2 _ _ _ _ ?_ ?_ <;> show (_ : Int) / _ = _ / _ <;> congr 1 <;> dsimp only <;> omega
    | away => refine z _ _ ?_; show (_ : Int) / _ = _ / _; congr 1; dsimp only; omega
    | zero => refine z _ _ ?_; rfl
    | out => refine z _ _ ?_; show (_ : Int) / _ = _ / _; congr 1; dsimp only; omega
    | odd =>
      refine z2 _ _ _ _ ?_ ?_ <;> show (_ : Int) / _ = _ / _ <;> congr 1 <;> dsimp only <;> omega
  | up =>
    cases w with
    | even => refine z _ _ ?_; show (_ : Int) / _ = _ / _; congr 1; dsimp only; omega
    | away => refine z _ _ ?_; show (_ : Int) / _ = _ / _; congr 1; dsimp only; omega
    | zero => refine z _ _ ?_; rfl
    | out => refine z _ _ ?_; show (_ : Int) / _ = _ / _; congr 1; dsimp only; omega
    | odd =>
      refine z2 _ _ _ _ ?_ ?_ <;> show (_ : Int) / _ = _ / _ <;> congr 1 <;> dsimp only <;> omega
  | half => refine z _ _ ?_; rfl
  | below => refine z _ _ ?_; show (_ : Int) / _ = _ / _; congr 1; dsimp only; omega
theorem kindF_frac (k : Kind) (w : Way) {n c m d : Int} (hc : 0 < c) (hd : 0 < d) (h : n * d = m * c) : kindF k w n c = kindF k w m d := by
  cases k with
  | read => exact readF_frac w hc hd h
  | up => exact upF_frac w hc hd h
  | half => exact halfF_frac hc hd h
  | below => exact belowF_frac hc hd h
def beyondK (k : Kind) (w : Way) (N : Int) : Int := match k with
  | .half => beyond w N / 2
  | .below => beyond w N / 2
  | _ => beyond w N
def kindJ (k : Kind) (p J : Nat) (w : Way) (D U : Int) (j : Nat) : Int := if j ≤ J then kindF k w (posN p j D U) (posC j D) else beyondK k w (many p J)
theorem kindJ_read (p J : Nat) (w : Way) (D U : Int) (j : Nat) : kindJ .read p J w D U j = readJ p J w D U j := rfl
theorem kindJ_up (p J : Nat) (w : Way) (D U : Int) (j : Nat) : kindJ .up p J w D U j = upJ p J w D U j := rfl
theorem kindJ_half (p J : Nat) (D U : Int) (j : Nat) : kindJ .half p J .odd D U j = halfJ p J D U j := rfl
theorem kindJ_below (p J : Nat) (D U : Int) (j : Nat) : kindJ .below p J .odd D U j = belowJ p J D U j := rfl
/-- the same fraction -/
theorem kindJ_frac (k : Kind) (p J : Nat) (w : Way) {D U D' U' : Int} (j : Nat) (hD : 0 < D) (hD' : 0 < D') (h : U * D' = U' * D) : kindJ k p J w D U j = kindJ k p J w D' U' j := by
  unfold kindJ
  split
  · refine kindF_frac k w (posC_pos hD j) (posC_pos hD' j) ?_
    rw [posN_eq, posN_eq]
    unfold posC
    have e1 : U * (D' * 2 ^ j) = U' * (D * 2 ^ j) := by rw [← Int.mul_assoc, h, Int.mul_assoc]
    have e2 : (j : Int) * half p * (D * 2 ^ j) * (D' * 2 ^ j) = (j : Int) * half p * (D' * 2 ^ j) * (D * 2 ^ j) := Int.mul_right_comm _ _ _
    rw [Int.add_mul, Int.add_mul, e1, e2]
  · rfl
theorem isJ_frac {p J : Nat} {D U D' U' : Int} {j : Nat} (hD : 0 < D) (hD' : 0 < D') (h : U * D' = U' * D) (i : IsJ p J D U j) : IsJ p J D' U' j := by
  obtain ⟨h1, h2, h3⟩ := i
  have key : ∀ z : Int, D * z ≤ U ↔ D' * z ≤ U' := fun z => by
    rw [← le_cancel (k := D') hD', ← le_cancel (a := D' * z) (k := D) hD, h]
    have e : D * z * D' = D' * z * D := by ac_rfl
    rw [e]
  refine ⟨h1, h2.elim .inl fun q => .inr ((key _).mp q), h3.elim .inl fun q => .inr ?_⟩
  have := key (2 ^ (p + j))
  omega
/-- the line that the program makes -/
def posLine (f : Fo) (s : Sl) (e : Int) : Line := ⟨s.num * pp (-e), (e - f.low) * half f.p * (s.den * pp e), s.den * pp e⟩
def stairOn (k : Kind) (f : Fo) (w : Way) (s : Sl) (e : Int) : List Line := if e ≤ f.high then kindStair k w (posLine f s e) else [⟨0, beyondK k w f.many, 1⟩]
/-- what the program's stair tells at x -/
theorem stairOn_at {f : Fo} {s : Sl} (hs : s.Ok) (k : Kind) (w : Way) (x : Int) {e : Int} (h0 : f.low ≤ e) (h1 : e ≤ f.high + 1) :
    stairAt (stairOn k f w s e) x = kindJ k f.p f.J w (s.D f) (s.A f * x) (e - f.low).toNat := by
  obtain ⟨j, hj⟩ : ∃ j : Nat, e - f.low = j := ⟨(e - f.low).toNat, by omega⟩
  have ej : (e - f.low).toNat = j := by omega
  have hh : f.high = f.low + f.J := rfl
  rw [ej]
  unfold stairOn kindJ
  by_cases h : e ≤ f.high
  · rw [if_pos h, if_pos (by omega), kindStair_at]
    have c1 : 0 < (posLine f s e).c := Int.mul_pos hs.d0 (pp_pos _)
    refine kindF_frac k w c1 (posC_pos hs.D0 j) ?_
    show (s.num * pp (-e) * x + (e - f.low) * half f.p * (s.den * pp e)) * posC j (s.D f) = posN f.p j (s.D f) (s.A f * x) * (s.den * pp e)
    rw [posN_eq, hj, Int.add_mul, Int.add_mul]
    have key : pp (-e) * (pp f.low * 2 ^ j) = pp (-f.low) * pp e := by
      unfold pp
      rw [← p2add, ← p2add, ← p2add]
      congr 1
      omega
    have e1 : s.num * pp (-e) * x * posC j (s.D f) = s.A f * x * (s.den * pp e) := by
      unfold posC Sl.A Sl.D
      have q1 : s.num * pp (-e) * x * (s.den * pp f.low * 2 ^ j) = s.num * x * s.den * (pp (-e) * (pp f.low * 2 ^ j)) := by ac_rfl
      have q2 : s.num * pp (-f.low) * x * (s.den * pp e) = s.num * x * s.den * (pp (-f.low) * pp e) := by ac_rfl
      rw [q1, q2, key]
    rw [e1]
    congr 1
    exact Int.mul_right_comm _ _ _
  · rw [if_neg h, if_neg (by omega)]
    show (0 * x + beyondK k w f.many) / 1 + 0 = _
    rw [Int.ediv_one, Int.zero_mul, Int.zero_add, Int.add_zero]
    rfl
/-- .. at the number's own exponent -/
theorem own_exp {f : Fo} {s : Sl} (hs : s.Ok) (hp : 1 ≤ f.p) {x : Int} (hx : 0 < x) : IsJ f.p f.J (s.D f) (s.A f * x) (expOf f (s.num * x) s.den - f.low).toNat := by
  have h := expOf_isJ (f := f) hp (Int.mul_pos hs.n0 hx) hs.d0
  have e : s.num * x * pp (-f.low) = s.A f * x := Int.mul_right_comm _ _ _
  rw [e] at h
  exact h
end K45
/-! ## MPiece -/
namespace K45
def startOf (f : Fo) (s : Sl) (e : Int) : Int := -(-(s.den * pp (f.p - 1 + e)) / (s.num * pp (-(f.p - 1 + e))))
theorem start_le {f : Fo} {s : Sl} (hs : s.Ok) (e x : Int) : startOf f s e ≤ x ↔ Ge2 (s.num * x) s.den (f.p - 1 + e) := by
  have hM : 0 < s.num * pp (-(f.p - 1 + e)) := Int.mul_pos hs.n0 (pp_pos _)
  unfold startOf Ge2
  have h1 : -(-(s.den * pp (f.p - 1 + e)) / (s.num * pp (-(f.p - 1 + e)))) ≤ x ↔ -x ≤ -(s.den * pp (f.p - 1 + e)) / (s.num * pp (-(f.p - 1 + e))) := by omega
  rw [h1, Int.le_ediv_iff_mul_le hM]
  have h2 : -x * (s.num * pp (-(f.p - 1 + e))) = -(s.num * x * pp (-(f.p - 1 + e))) := by
    rw [Int.neg_mul]; congr 1; ac_rfl
  rw [h2]
  omega
theorem ge2_le_log {num den t : Int} (hn : 0 < num) (hd : 0 < den) : Ge2 num den t ↔ t ≤ floorLog num den := by
  obtain ⟨g1, g2⟩ := floorLog_spec hn hd
  constructor
  · intro g
    refine Int.not_lt.mp fun h => g2 (ge2_mono hn hd (by omega) g)
  · intro h
    exact ge2_mono hn hd h g1
theorem exp_ge {f : Fo} {num den e : Int} (hn : 0 < num) (hd : 0 < den) (h0 : f.low < e) (h1 : e ≤ f.high + 1) : e ≤ expOf f num den ↔ Ge2 num den (f.p - 1 + e) := by
  rw [ge2_le_log hn hd]
  unfold expOf
  omega
theorem start_exp {f : Fo} {s : Sl} (hs : s.Ok) {e x : Int} (hx : 0 < x) (h0 : f.low < e) (h1 : e ≤ f.high + 1) : startOf f s e ≤ x ↔ e ≤ expOf f (s.num * x) s.den := by
  rw [start_le hs, exp_ge (Int.mul_pos hs.n0 hx) hs.d0 h0 h1]
theorem exp_mono {f : Fo} {s : Sl} (hs : s.Ok) {x y : Int} (hx : 0 < x) (h : x ≤ y) : expOf f (s.num * x) s.den ≤ expOf f (s.num * y) s.den := by
  have r := expOf_range f (s.num * x) s.den
  have r2 := expOf_range f (s.num * y) s.den
  by_cases h0 : expOf f (s.num * x) s.den = f.low
  · omega
  · have h1 := (start_exp (f := f) hs hx (e := expOf f (s.num * x) s.den) (by omega) r.2).mpr (Int.le_refl _)
    exact (start_exp hs (by omega) (by omega) r.2).mp (by omega)
/-- the cuts -/
structure Cuts (f : Fo) (last : Int) (sl : List Sl) (ns : List Int) : Prop where
  up : ns.Pairwise (· < ·)
  mem : ∀ k : Int, k ∈ ns ↔ k = 1 ∨ k = last + 1 ∨ ∃ s ∈ sl, ∃ e, expOf f s.num s.den < e ∧ e ≤ expOf f (s.num * last) s.den ∧ k = startOf f s e
theorem Cuts.range {f : Fo} {last : Int} {sl : List Sl} {ns : List Int} (c : Cuts f last sl ns) (hl : 1 ≤ last) (hs : ∀ s ∈ sl, s.Ok) {k : Int} (hk : k ∈ ns) : 1 ≤ k ∧ k ≤ last + 1 := by
  rcases (c.mem k).mp hk with h | h | ⟨s, h1, e, h2, h3, h4⟩
  · omega
  · omega
  · have r := expOf_range f s.num s.den
    have r2 := expOf_range f (s.num * last) s.den
    have a := (start_exp (f := f) (hs s h1) (e := e) (x := last) (by omega) (by omega) (by omega)).mpr h3
    have b : ¬ startOf f s e ≤ 1 := fun z => by
      have q := (start_exp (f := f) (hs s h1) (e := e) (x := 1) (by omega) (by omega) (by omega)).mp z
      rw [Int.mul_one] at q
      omega
    omega
theorem Cuts.const {f : Fo} {last : Int} {sl : List Sl} {ns : List Int} (c : Cuts f last sl ns) (hl : 1 ≤ last) (hs : ∀ s ∈ sl, s.Ok) {lo hi : Int} (h1 : lo ∈ ns) (h2 : hi ∈ ns) (hno : ∀ k ∈ ns, k ≤ lo ∨ hi ≤ k)
    {s : Sl} (h : s ∈ sl) {x : Int} (hx : lo ≤ x) (hx2 : x < hi) : expOf f (s.num * x) s.den = expOf f (s.num * lo) s.den := by
  have r1 := c.range hl hs h1
  have r2 := c.range hl hs h2
  have so := hs s h
  have m := exp_mono (f := f) so (x := lo) (y := x) (by omega) hx
  refine Int.le_antisymm (Int.not_lt.mp fun z => ?_) m
  have rx := expOf_range f (s.num * x) s.den
  have rl := expOf_range f (s.num * lo) s.den
  have m1 := exp_mono (f := f) so (x := 1) (y := lo) (by omega) (by omega)
  rw [Int.mul_one] at m1
  have m2 := exp_mono (f := f) so (x := x) (y := last) (by omega) (by omega)
  have hin := (c.mem (startOf f s (expOf f (s.num * lo) s.den + 1))).mpr (.inr (.inr ⟨s, h, _, by omega, by omega, rfl⟩))
  have a := (start_exp (f := f) so (e := expOf f (s.num * lo) s.den + 1) (x := x) (by omega) (by omega) (by omega)).mpr (by omega)
  have b : ¬ startOf f s (expOf f (s.num * lo) s.den + 1) ≤ lo := fun y => by
    have := (start_exp (f := f) so (e := expOf f (s.num * lo) s.den + 1) (x := lo) (by omega) (by omega) (by omega)).mp y
    omega
  rcases hno _ hin with q | q <;> omega
/-! ### sums over a range -/
def rsum (g : Int → Int) (lo hi : Int) : Int := sm (fun i => g (lo + i)) (hi - lo).toNat
theorem sm_split (f : Nat → Int) (a : Nat) : ∀ b, sm f (a + b) = sm f a + sm (fun i => f (a + i)) b
  | 0 => by simp [sm]
  | b + 1 => by
    show sm f (a + b) + f (a + b) = sm f a + (sm (fun i => f (a + i)) b + f (a + b))
    rw [sm_split f a b]; omega
theorem rsum_split (g : Int → Int) {a b c : Int} (h1 : a ≤ b) (h2 : b ≤ c) : rsum g a c = rsum g a b + rsum g b c := by
  unfold rsum
  have e : (c - a).toNat = (b - a).toNat + (c - b).toNat := by omega
  rw [e, sm_split]
  congr 1
  refine sm_congr _ fun i _ => ?_
  congr 1
  omega
theorem rsum_congr {g g' : Int → Int} {a b : Int} (h : ∀ x, a ≤ x → x < b → g x = g' x) : rsum g a b = rsum g' a b := by
  unfold rsum
  exact sm_congr _ fun i hi => h _ (by omega) (by omega)
theorem rsum_none (g : Int → Int) {a b : Int} (h : b ≤ a) : rsum g a b = 0 := by
  unfold rsum
  rw [show (b - a).toNat = 0 by omega]; rfl
theorem rsum_one (g : Int → Int) (a : Int) : rsum g a (a + 1) = g a := by
  unfold rsum
  rw [show (a + 1 - a).toNat = 0 + 1 by omega]
  show (0 : Int) + g (a + ((0 : Nat) : Int)) = g a
  simp
theorem rsum_next (g : Int → Int) {a b : Int} (h : a ≤ b) : rsum g a (b + 1) = rsum g a b + g b := by
  rw [rsum_split g h (show b ≤ b + 1 by omega), rsum_one]
theorem rsum_pos {g : Int → Int} {a b : Int} (h : ∀ x, a ≤ x → x < b → 0 ≤ g x) : 0 ≤ rsum g a b := by
  unfold rsum
  have key : ∀ n : Nat, (∀ i : Nat, i < n → 0 ≤ g (a + i)) → 0 ≤ sm (fun i => g (a + i)) n := by
    intro n
    induction n with
    | zero => intro _; exact Int.le_refl 0
    | succ n ih =>
      intro hh
      have h1 := ih fun i hi => hh i (by omega)
      have h2 := hh n (by omega)
      show 0 ≤ sm (fun i => g (a + i)) n + g (a + n)
      omega
  exact key _ fun i hi => h _ (by omega) (by omega)
theorem rsum_sub (g g' : Int → Int) (a b : Int) : rsum (fun x => g x - g' x) a b = rsum g a b - rsum g' a b := sm_sub _
theorem rsum_mono {g : Int → Int} {a b c : Int} (h1 : a ≤ b) (h2 : b ≤ c) (h : ∀ x, b ≤ x → x < c → 0 ≤ g x) : rsum g a b ≤ rsum g a c := by
  have := rsum_pos h
  rw [rsum_split g h1 h2]; omega
/-- what sum_of_stair gives -/
def sumStair (st : List Line) (lo hi : Int) : Int := (st.map fun l => fs l.a (l.b + l.a * lo) l.c (hi - lo).toNat).sum
theorem sm_list (F : Line → Nat → Int) (n : Nat) : ∀ st : List Line, (st.map fun l => sm (F l) n).sum = sm (fun i => (st.map fun l => F l i).sum) n
  | [] => by
    show (0 : Int) = sm (fun _ => 0) n
    rw [sm_zero]
  | l :: st => by
    show sm (F l) n + (st.map fun l => sm (F l) n).sum = sm (fun i => F l i + (st.map fun l => F l i).sum) n
    rw [sm_list F n st, sm_add]
theorem sumStair_eq (st : List Line) (lo hi : Int) : sumStair st lo hi = rsum (stairAt st) lo hi := by
  unfold sumStair rsum
  have e : (st.map fun l => fs l.a (l.b + l.a * lo) l.c (hi - lo).toNat) = st.map fun l => sm (fun i : Nat => lv l.a l.b l.c (lo + i)) (hi - lo).toNat := by
    refine List.map_congr_left fun l _ => ?_
    unfold fs
    refine sm_congr _ fun i _ => ?_
    unfold lv
    congr 1
    rw [Int.mul_add]; omega
  rw [e, sm_list]
  rfl
structure Piece where
  lo : Int
  hi : Int
  lower : List Line
  upper : List Line
def Piece.diff (q : Piece) (x : Int) : Int := stairAt q.upper x - stairAt q.lower x
/-- what steps_between gives -/
def Piece.steps (q : Piece) (lo hi : Int) : Int := sumStair q.upper lo hi - sumStair q.lower lo hi
theorem Piece.steps_eq (q : Piece) (lo hi : Int) : q.steps lo hi = rsum q.diff lo hi := by
  unfold Piece.steps
  rw [sumStair_eq, sumStair_eq]
  exact (rsum_sub _ _ _ _).symm
/-- pieces one behind the other, from a to b; on each the difference is g -/
def Chain (g : Int → Int) : Int → Int → List Piece → Prop
  | a, b, [] => a = b
  | a, b, q :: r => q.lo = a ∧ q.lo < q.hi ∧ (∀ x, q.lo ≤ x → x < q.hi → q.diff x = g x) ∧ Chain g q.hi b r
theorem Chain.le {g : Int → Int} : ∀ {qs : List Piece} {a b : Int}, Chain g a b qs → a ≤ b
  | [], a, b, h => by
    have : a = b := h
    omega
  | q :: r, a, b, ⟨h1, h2, _, h4⟩ => by
    have := Chain.le h4
    omega
def countIn (qs : List Piece) : Int := (qs.map fun q => q.steps q.lo q.hi).sum
theorem countIn_eq {g : Int → Int} : ∀ {qs : List Piece} {a b : Int}, Chain g a b qs → countIn qs = rsum g a b
  | [], a, b, h => by
    have : a = b := h
    rw [this, rsum_none g (Int.le_refl _)]; rfl
  | q :: r, a, b, ⟨h1, h2, h3, h4⟩ => by
    show q.steps q.lo q.hi + countIn r = _
    rw [countIn_eq h4, Piece.steps_eq, rsum_congr h3, ← rsum_split g (by omega) h4.le, h1]
/-- at an index: the pieces behind i of them -/
theorem Chain.at {g : Int → Int} : ∀ {qs : List Piece} {a b : Int} (i : Nat) {q : Piece}, Chain g a b qs → qs[i]? = some q →
    a ≤ q.lo ∧ q.lo < q.hi ∧ q.hi ≤ b ∧ (∀ x, q.lo ≤ x → x < q.hi → q.diff x = g x) ∧ countIn (qs.take i) = rsum g a q.lo
  | [], _, _, i, _, _, e => by simp at e
  | q :: r, a, b, 0, q', ⟨h1, h2, h3, h4⟩, e => by
    have e' : q = q' := by simpa using e
    subst e'
    have := h4.le
    refine ⟨by omega, h2, by omega, h3, ?_⟩
    rw [h1, rsum_none g (Int.le_refl _)]; rfl
  | q :: r, a, b, i + 1, q', ⟨h1, h2, h3, h4⟩, e => by
    have e' : r[i]? = some q' := by simpa using e
    obtain ⟨k1, k2, k3, k4, k5⟩ := Chain.at i h4 e'
    refine ⟨by omega, k2, k3, k4, ?_⟩
    show q.steps q.lo q.hi + countIn (r.take i) = _
    rw [k5, Piece.steps_eq, rsum_congr h3, h1, ← rsum_split g (by omega) k1]
/-- pieces by their cuts -/
theorem chain_of {g : Int → Int} : ∀ {ns : List Int} {qs : List Piece} {a b : Int}, ns.Pairwise (· < ·) → qs.length + 1 = ns.length → ns.head? = some a → ns.getLast? = some b →
    (∀ (i : Nat) (q : Piece), qs[i]? = some q → ∃ lo hi, ns[i]? = some lo ∧ ns[i + 1]? = some hi ∧ q.lo = lo ∧ q.hi = hi ∧ ∀ x, lo ≤ x → x < hi → q.diff x = g x) → Chain g a b qs
  | [], qs, a, b, _, hl, _, _, _ => by simp at hl
  | [n], [], a, b, _, _, h1, h2, _ => by
    have e1 : n = a := by simpa using h1
    have e2 : n = b := by simpa using h2
    show a = b
    omega
  | [n], q :: qs, a, b, _, hl, _, _, _ => by simp at hl
  | n :: m :: ns, [], a, b, _, hl, _, _, _ => by simp at hl
  | n :: m :: ns, q :: qs, a, b, hp, hl, h1, h2, hq => by
    obtain ⟨lo, hi, e1, e2, e3, e4, e5⟩ := hq 0 q rfl
    have e1 : n = lo := by simpa using e1
    have e2 : m = hi := by simpa using e2
    have e0 : n = a := by simpa using h1
    obtain ⟨hp1, hp2⟩ := List.pairwise_cons.mp hp
    have lt := hp1 m List.mem_cons_self
    refine ⟨by omega, by omega, fun x hx hx2 => e5 x (by omega) (by omega), ?_⟩
    rw [e4, ← e2]
    refine chain_of hp2 (by simpa using hl) rfl (by simpa using h2) fun i q' h => ?_
    obtain ⟨lo', hi', k1, k2, k3⟩ := hq (i + 1) q' (by simpa using h)
    exact ⟨lo', hi', by simpa using k1, by simpa using k2, k3⟩
/-- between two cuts that follow one another there is none -/
theorem no_between : ∀ {ns : List Int} {i : Nat} {lo hi : Int}, ns.Pairwise (· < ·) → ns[i]? = some lo → ns[i + 1]? = some hi → ∀ k ∈ ns, k ≤ lo ∨ hi ≤ k := by
  intro ns i lo hi hp h1 h2 k hk
  obtain ⟨j, hj, e⟩ := List.mem_iff_getElem.mp hk
  obtain ⟨i1, e1⟩ := List.getElem?_eq_some_iff.mp h1
  obtain ⟨i2, e2⟩ := List.getElem?_eq_some_iff.mp h2
  have pw := List.pairwise_iff_getElem.mp hp
  by_cases h : j ≤ i
  · by_cases he : j = i
    · subst he
      left; omega
    · have := pw j i hj i1 (by omega)
      left; omega
  · by_cases he : j = i + 1
    · subst he
      right; omega
    · have := pw (i + 1) j i2 hj (by omega)
      right; omega
theorem Cuts.head {f : Fo} {last : Int} {sl : List Sl} {ns : List Int} (c : Cuts f last sl ns) (hl : 1 ≤ last) (hs : ∀ s ∈ sl, s.Ok) : ns.head? = some 1 ∧ ns.getLast? = some (last + 1) := by
  have h1 := (c.mem 1).mpr (.inl rfl)
  have h2 := (c.mem (last + 1)).mpr (.inr (.inl rfl))
  have up := c.up
  have rg := fun k hk => c.range hl hs (k := k) hk
  constructor
  · cases ns with
    | nil => simp at h1
    | cons n r =>
      obtain ⟨p1, _⟩ := List.pairwise_cons.mp up
      have a := rg n List.mem_cons_self
      rcases List.mem_cons.mp h1 with e | e
      · rw [← e]; rfl
      · have := p1 1 e
        omega
  · have hne : ns ≠ [] := fun z => by rw [z] at h1; simp at h1
    rw [List.getLast?_eq_some_getLast hne]
    congr 1
    have a := rg _ (List.getLast_mem hne)
    obtain ⟨j, hj, e⟩ := List.mem_iff_getElem.mp h2
    have el := List.getLast_eq_getElem hne
    by_cases hh : j = ns.length - 1
    · subst hh
      omega
    · have pw := List.pairwise_iff_getElem.mp up
      have := pw j (ns.length - 1) hj (by omega) (by omega)
      omega
/-! ### the law's list -/
def wl (P : Nat → Bool) (n : Nat) : List Int := ((List.range n).filter P).map fun (k : Nat) => (k : Int) + 1
def gOf (P : Nat → Bool) (x : Int) : Int := if P (x - 1).toNat = true then 1 else 0
theorem gOf_range (P : Nat → Bool) (x : Int) : 0 ≤ gOf P x ∧ gOf P x ≤ 1 := by
  unfold gOf
  split <;> omega
theorem wl_succ (P : Nat → Bool) (n : Nat) : wl P (n + 1) = wl P n ++ if P n = true then [(n : Int) + 1] else [] := by
  unfold wl
  rw [List.range_succ, List.filter_append, List.map_append]
  congr 1
  by_cases h : P n = true
  · rw [if_pos h, List.filter_cons_of_pos h]; rfl
  · rw [if_neg h, List.filter_cons_of_neg h]; rfl
theorem gOf_at (P : Nat → Bool) (n : Nat) : gOf P (1 + (n : Int)) = if P n = true then 1 else 0 := by
  unfold gOf
  rw [show (1 + (n : Int) - 1).toNat = n by omega]
theorem wl_length (P : Nat → Bool) : ∀ n : Nat, ((wl P n).length : Int) = rsum (gOf P) 1 ((n : Int) + 1)
  | 0 => by rw [rsum_none _ (by omega)]; rfl
  | n + 1 => by
    have e : ((n + 1 : Nat) : Int) + 1 = (n : Int) + 1 + 1 := by omega
    rw [wl_succ, List.length_append, e, rsum_next _ (by omega), ← wl_length P n, Int.add_comm (n : Int) 1, gOf_at]
    split
    · simp
    · simp
theorem wl_at (P : Nat → Bool) : ∀ (n : Nat) (x : Int), 1 ≤ x → x ≤ n → gOf P x = 1 → (wl P n)[(rsum (gOf P) 1 x).toNat]? = some x
  | 0, x, h1, h2, _ => by omega
  | n + 1, x, h1, h2, hg => by
    rw [wl_succ]
    by_cases h : x ≤ n
    · have ih := wl_at P n x h1 h hg
      rw [List.getElem?_append_left (List.getElem?_eq_some_iff.mp ih).1]
      exact ih
    · have ex : x = (n : Int) + 1 := by omega
      subst ex
      have hP : P n = true := by
        rw [Int.add_comm, gOf_at] at hg
        split at hg
        · assumption
        · omega
      rw [← wl_length, if_pos hP, Int.toNat_natCast, List.getElem?_append_right (Nat.le_refl _), Nat.sub_self]
      rfl
/-- the number with an index -/
structure IsAt (g : Int → Int) (a b idx x : Int) : Prop where
  lo : a ≤ x
  hi : x < b
  before : rsum g a x = idx
  here : g x = 1
/-- what the search in a piece finds -/
theorem isAt_of {g : Int → Int} (hg : ∀ x, 0 ≤ g x ∧ g x ≤ 1) {a b : Int} {qs : List Piece} (c : Chain g a b qs) {i : Nat} {q : Piece} (hq : qs[i]? = some q) {x left : Int} (h1 : q.lo ≤ x) (h2 : x < q.hi)
    (h3 : rsum q.diff q.lo x ≤ left) (h4 : left < rsum q.diff q.lo (x + 1)) : IsAt g a b (countIn (qs.take i) + left) x := by
  obtain ⟨k1, k2, k3, k4, k5⟩ := c.at i hq
  have e1 : rsum q.diff q.lo x = rsum g q.lo x := rsum_congr fun y hy hy2 => k4 y hy (by omega)
  have e2 : rsum q.diff q.lo (x + 1) = rsum g q.lo (x + 1) := rsum_congr fun y hy hy2 => k4 y hy (by omega)
  rw [e2, rsum_next g h1] at h4
  rw [e1] at h3
  have := hg x
  refine ⟨by omega, by omega, ?_, by omega⟩
  rw [rsum_split g k1 h1, k5]
  omega
end K45
/-! ## MRow -/
namespace K45
structure Row where
  P : Int
  g : Int
  s : Int
  h : Int
def tenP (z : Int) : Int := 10 ^ z.toNat
theorem tenP_pos (z : Int) : 0 < tenP z := by
  unfold tenP
  have : ∀ n : Nat, (0 : Int) < 10 ^ n := fun n => by
    induction n with
    | zero => decide
    | succ n ih => rw [Int.pow_succ]; omega
  exact this _
def Row.val (r : Row) : Sl := ⟨tenP r.P, tenP (-r.P)⟩
def Row.run (r : Row) : Sl := ⟨r.g * pp r.s, pp (-r.s)⟩
def Row.top (r : Row) : Sl := ⟨(r.g + r.h) * pp r.s, pp (-r.s)⟩
structure Row.Ok (r : Row) : Prop where
  g1 : 1 ≤ r.g
  h0 : 0 ≤ r.h
theorem Row.val_ok (r : Row) : r.val.Ok := ⟨tenP_pos _, tenP_pos _⟩
theorem Row.Ok.run_ok {r : Row} (o : r.Ok) : r.run.Ok := ⟨Int.mul_pos (by have := o.g1; omega) (pp_pos _), pp_pos _⟩
def above (a b : Sl) : Prop := b.num * a.den < a.num * b.den
instance (a b : Sl) : Decidable (above a b) := by unfold above; infer_instance
structure Row.Sound (r : Row) : Prop where
  lo : ¬ above r.run r.val
  hi : ¬ above r.val r.top
def Row.Fine (f : Fo) (r : Row) : Prop := 2 * r.h * 2 ^ f.p ≤ r.g
/-- what a stair of a kind tells at x, by x's own exponent -/
def tell (k : Kind) (f : Fo) (w : Way) (s : Sl) (x : Int) : Int := kindJ k f.p f.J w (s.D f) (s.A f * x) (expOf f (s.num * x) s.den - f.low).toNat
/-- over one denominator -/
theorem tell_over (k : Kind) (f : Fo) (w : Way) {s : Sl} (hs : s.Ok) (x : Int) {z : Int} (hz : 0 < z) : tell k f w s x = kindJ k f.p f.J w (s.D f * z) (s.A f * x * z) (expOf f (s.num * x) s.den - f.low).toNat := by
  unfold tell
  exact kindJ_frac k f.p f.J w _ hs.D0 (Int.mul_pos hs.D0 hz) (by ac_rfl)
theorem pos_of_mul {a b : Int} (hb : 0 < b) (h : 0 < a * b) : 0 < a := Int.pos_of_mul_pos_left h hb
/-- the two slopes of a sound row that is not coarse, at x -/
theorem Row.two {r : Row} {f : Fo} (o : r.Ok) (hh : 1 ≤ r.h) (hp : 1 ≤ f.p) (so : r.Sound) (fi : r.Fine f) {x : Int} (hx : 0 < x) :
    Two f.p f.J (r.run.D f * r.val.D f) (r.run.A f * x * r.val.D f) (r.val.A f * x * r.run.D f) (expOf f (r.run.num * x) r.run.den - f.low).toNat (expOf f (r.val.num * x) r.val.den - f.low).toNat ∧
    (r.run.A f * x * r.val.D f < r.val.A f * x * r.run.D f ↔ above r.val r.run) := by
  have ro := o.run_ok
  have vo := r.val_ok
  obtain ⟨s1, s2⟩ := so
  have g1 := o.g1
  -- both are the same multiples of R and V
  have eu : r.run.A f * x * r.val.D f = r.run.num * r.val.den * (pp (-f.low) * x * pp f.low) := by unfold Sl.A Sl.D; ac_rfl
  have ev : r.val.A f * x * r.run.D f = r.val.num * r.run.den * (pp (-f.low) * x * pp f.low) := by unfold Sl.A Sl.D; ac_rfl
  have hM : 0 < pp (-f.low) * x * pp f.low := Int.mul_pos (Int.mul_pos (pp_pos _) hx) (pp_pos _)
  have hR : 0 < r.run.num * r.val.den := Int.mul_pos ro.n0 vo.d0
  have RV : r.run.num * r.val.den ≤ r.val.num * r.run.den := Int.not_lt.mp s1
  have VT : r.val.num * r.run.den ≤ r.run.num * r.val.den + r.h * (pp r.s * r.val.den) := by
    have q : r.val.num * r.top.den ≤ r.top.num * r.val.den := Int.not_lt.mp s2
    have e : r.top.num * r.val.den = r.run.num * r.val.den + r.h * (pp r.s * r.val.den) := by
      show (r.g + r.h) * pp r.s * r.val.den = r.g * pp r.s * r.val.den + _
      rw [Int.add_mul, Int.add_mul, Int.mul_assoc r.h]
    rw [e] at q
    exact q
  have eR : r.run.num * r.val.den = r.g * (pp r.s * r.val.den) := Int.mul_assoc _ _ _
  -- 2 * 2 ** p * (V - R) ≤ R
  have key : 2 * 2 ^ f.p * (r.val.num * r.run.den - r.run.num * r.val.den) ≤ r.run.num * r.val.den := by
    have hq : 0 ≤ pp r.s * r.val.den := Int.mul_nonneg (by have := pp_pos r.s; omega) (by have := vo.d0; omega)
    have hp2 := p2pos f.p
    have h1 : 2 * 2 ^ f.p * (r.val.num * r.run.den - r.run.num * r.val.den) ≤ 2 * 2 ^ f.p * (r.h * (pp r.s * r.val.den)) := Int.mul_le_mul_of_nonneg_left (by omega) (by omega)
    have h2 : 2 * r.h * 2 ^ f.p * (pp r.s * r.val.den) ≤ r.g * (pp r.s * r.val.den) := Int.mul_le_mul_of_nonneg_right fi hq
    have h3 : 2 * 2 ^ f.p * (r.h * (pp r.s * r.val.den)) = 2 * r.h * 2 ^ f.p * (pp r.s * r.val.den) := by ac_rfl
    omega
  refine ⟨⟨hp, Int.mul_pos ro.D0 vo.D0, ?_, ?_, ?_, ?_, ?_⟩, ?_⟩
  · rw [eu]; exact Int.mul_pos hR hM
  · rw [eu, ev]; exact Int.mul_le_mul_of_nonneg_right RV (by omega)
  · rw [eu, ev, ← Int.sub_mul, ← Int.mul_assoc]; exact Int.mul_le_mul_of_nonneg_right key (by omega)
  · exact isJ_frac ro.D0 (Int.mul_pos ro.D0 vo.D0) (by ac_rfl) (own_exp ro hp hx)
  · exact isJ_frac vo.D0 (Int.mul_pos ro.D0 vo.D0) (by ac_rfl) (own_exp vo hp hx)
  · rw [eu, ev]
    unfold above
    exact ⟨fun h => Int.lt_of_mul_lt_mul_right h (by omega), fun h => Int.mul_lt_mul_of_pos_right h hM⟩
/-- the kinds and slopes that wrong_steps chooses: lower, upper -/
structure Pick where
  s1 : Sl
  k1 : Kind
  s2 : Sl
  k2 : Kind
def Row.pick (r : Row) (w : Way) : Pick :=
  if above r.val r.run then (if w = .odd then ⟨r.run, .half, r.val, .half⟩ else ⟨r.run, .up, r.val, .read⟩)
  else (if w = .odd then ⟨r.val, .below, r.run, .half⟩ else ⟨r.val, .read, r.run, .up⟩)
def Pick.diff (q : Pick) (f : Fo) (w : Way) (x : Int) : Int := tell q.k2 f w q.s2 x - tell q.k1 f w q.s1 x
/-- the steps part just at the wrong numbers, by 1 -/
theorem Row.pick_diff {r : Row} {f : Fo} (o : r.Ok) (hh : 1 ≤ r.h) (hp : 1 ≤ f.p) (so : r.Sound) (fi : r.Fine f) (w : Way) {x : Int} (hx : 0 < x) :
    (r.pick w).diff f w x = if tell .up f w r.run x ≠ tell .read f w r.val x then 1 else 0 := by
  obtain ⟨t, ht⟩ := Row.two o hh hp so fi hx
  have ro := o.run_ok
  have vo := r.val_ok
  have er : ∀ k, tell k f w r.run x = kindJ k f.p f.J w (r.run.D f * r.val.D f) (r.run.A f * x * r.val.D f) (expOf f (r.run.num * x) r.run.den - f.low).toNat := fun k => tell_over k f w ro x vo.D0
  have ev : ∀ k, tell k f w r.val x = kindJ k f.p f.J w (r.run.D f * r.val.D f) (r.val.A f * x * r.run.D f) (expOf f (r.val.num * x) r.val.den - f.low).toNat := fun k => by
    rw [tell_over k f w vo x ro.D0, Int.mul_comm (r.val.D f)]
  unfold Row.pick Pick.diff
  rw [er .up, ev .read]
  by_cases ha : above r.val r.run
  · have hlt := ht.mpr ha
    rw [if_pos ha]
    by_cases hw : w = .odd
    · rw [if_pos hw]
      subst hw
      dsimp only
      rw [er .half, ev .half, kindJ_half, kindJ_half, kindJ_read, kindJ_up]
      obtain ⟨a1, a2⟩ := t.above_odd hlt
      split
      · rename_i h
        have := a2.mp h
        omega
      · rename_i h
        have := (fun z => h (a2.mpr z))
        by_cases e : halfJ f.p f.J (r.run.D f * r.val.D f) (r.run.A f * x * r.val.D f) (expOf f (r.run.num * x) r.run.den - f.low).toNat = halfJ f.p f.J (r.run.D f * r.val.D f) (r.val.A f * x * r.run.D f) (expOf f (r.val.num * x) r.val.den - f.low).toNat
        · omega
        · exact absurd e this
    · rw [if_neg hw]
      dsimp only
      rw [er .up, ev .read, kindJ_read, kindJ_up]
      have a := t.above hlt hw
      split <;> omega
  · have hle := t.le
    have heq : r.run.A f * x * r.val.D f = r.val.A f * x * r.run.D f := by
      have : ¬ r.run.A f * x * r.val.D f < r.val.A f * x * r.run.D f := fun z => ha (ht.mp z)
      omega
    have hst : (expOf f (r.run.num * x) r.run.den - f.low).toNat = (expOf f (r.val.num * x) r.val.den - f.low).toNat := by
      have hu := t.hu
      have hv := t.hv
      rw [heq] at hu
      have t2 : Two f.p f.J (r.run.D f * r.val.D f) (r.val.A f * x * r.run.D f) (r.val.A f * x * r.run.D f) _ _ := ⟨hp, t.hD, by rw [← heq]; exact t.u0, Int.le_refl _, by rw [Int.sub_self, Int.mul_zero]; have := t.u0; omega, hu, hv⟩
      have t3 : Two f.p f.J (r.run.D f * r.val.D f) (r.val.A f * x * r.run.D f) (r.val.A f * x * r.run.D f) _ _ := ⟨hp, t.hD, by rw [← heq]; exact t.u0, Int.le_refl _, by rw [Int.sub_self, Int.mul_zero]; have := t.u0; omega, hv, hu⟩
      have q1 := t2.step
      have q2 := t3.step
      omega
    rw [if_neg ha]
    by_cases hw : w = .odd
    · rw [if_pos hw]
      subst hw
      dsimp only
      rw [er .half, ev .below, heq, hst, kindJ_half, kindJ_below, kindJ_read, kindJ_up]
      obtain ⟨a1, a2⟩ := same_odd (p := f.p) (J := f.J) (u := r.val.A f * x * r.run.D f) (i := (expOf f (r.val.num * x) r.val.den - f.low).toNat) t.hD
      split
      · rename_i h
        have := a2.mp h
        omega
      · rename_i h
        have := (fun z => h (a2.mpr z))
        by_cases e : halfJ f.p f.J (r.run.D f * r.val.D f) (r.val.A f * x * r.run.D f) (expOf f (r.val.num * x) r.val.den - f.low).toNat = belowJ f.p f.J (r.run.D f * r.val.D f) (r.val.A f * x * r.run.D f) (expOf f (r.val.num * x) r.val.den - f.low).toNat
        · omega
        · exact absurd e this
    · rw [if_neg hw]
      dsimp only
      rw [er .up, ev .read, heq, hst, kindJ_read, kindJ_up]
      have a := same_step (p := f.p) (J := f.J) (u := r.val.A f * x * r.run.D f) (i := (expOf f (r.val.num * x) r.val.den - f.low).toNat) t.hD hw
      split <;> omega
/-! ### the law's slopes -/
structure Lw where
  A : Int
  D : Int
def Row.lawRun (r : Row) (f : Fo) : Lw := ⟨r.g * pp (r.s - f.low), pp (f.low - r.s)⟩
def Row.lawVal (r : Row) (f : Fo) : Lw := ⟨tenP r.P * pp (-f.low), tenP (-r.P) * pp f.low⟩
theorem Row.lawRun_cross (r : Row) (f : Fo) : r.run.A f * (r.lawRun f).D = (r.lawRun f).A * r.run.D f := by
  show r.g * pp r.s * pp (-f.low) * pp (f.low - r.s) = r.g * pp (r.s - f.low) * (pp (-r.s) * pp f.low)
  have key : pp r.s * pp (-f.low) * pp (f.low - r.s) = pp (r.s - f.low) * (pp (-r.s) * pp f.low) := by
    unfold pp
    rw [← p2add, ← p2add, ← p2add, ← p2add]
    congr 1
    omega
  have e1 : r.g * pp r.s * pp (-f.low) * pp (f.low - r.s) = r.g * (pp r.s * pp (-f.low) * pp (f.low - r.s)) := by ac_rfl
  have e2 : r.g * pp (r.s - f.low) * (pp (-r.s) * pp f.low) = r.g * (pp (r.s - f.low) * (pp (-r.s) * pp f.low)) := by ac_rfl
  rw [e1, e2, key]
/-- a law's slope with the same fraction tells the same -/
theorem lw_told {f : Fo} {s : Sl} {l : Lw} (hs : s.Ok) (hl : 0 < l.D) (c : s.A f * l.D = l.A * s.D f) (hp : 1 ≤ f.p) (w : Way) {x k : Int} (hx : 0 < x) (hk : IsCode f.p f.J l.D (l.A * x) k) :
    lawTold f.p w false l.D (l.A * x) k = tell .read f w s x ∧ lawTold f.p w true l.D (l.A * x) k = tell .up f w s x := by
  have cx : s.A f * x * l.D = l.A * x * s.D f := by
    rw [Int.mul_right_comm, c, Int.mul_right_comm]
  have J := isJ_frac hs.D0 hl cx (own_exp hs hp hx)
  have U0 : 0 ≤ l.A * x := by
    have h1 : 0 < s.A f * x * l.D := Int.mul_pos (Int.mul_pos hs.A0 hx) hl
    rw [cx] at h1
    have := pos_of_mul hs.D0 h1
    omega
  obtain ⟨a, b⟩ := lawTold_read w hp hl U0 J hk
  rw [a, b, ← kindJ_read, ← kindJ_up]
  unfold tell
  exact ⟨(kindJ_frac .read f.p f.J w _ hs.D0 hl cx).symm, (kindJ_frac .up f.p f.J w _ hs.D0 hl cx).symm⟩
/-- h = 0 and sound: the run is the value -/
theorem Row.exact {r : Row} {f : Fo} (o : r.Ok) (hh : r.h = 0) (so : r.Sound) (hp : 1 ≤ f.p) (w : Way) {x : Int} (hx : 0 < x) : tell .read f w r.run x = tell .read f w r.val x := by
  obtain ⟨s1, s2⟩ := so
  have ro := o.run_ok
  have vo := r.val_ok
  have RV : r.run.num * r.val.den ≤ r.val.num * r.run.den := Int.not_lt.mp s1
  have VT : r.val.num * r.run.den ≤ r.run.num * r.val.den := by
    have q : r.val.num * r.top.den ≤ r.top.num * r.val.den := Int.not_lt.mp s2
    have e : r.top.num = r.run.num := by
      show (r.g + r.h) * pp r.s = r.g * pp r.s
      rw [hh, Int.add_zero]
    rw [e] at q
    exact q
  have e0 : r.run.num * r.val.den = r.val.num * r.run.den := by omega
  have cx : r.run.A f * x * r.val.D f = r.val.A f * x * r.run.D f := by
    have eu : r.run.A f * x * r.val.D f = r.run.num * r.val.den * (pp (-f.low) * x * pp f.low) := by unfold Sl.A Sl.D; ac_rfl
    have ev : r.val.A f * x * r.run.D f = r.val.num * r.run.den * (pp (-f.low) * x * pp f.low) := by unfold Sl.A Sl.D; ac_rfl
    rw [eu, ev, e0]
  have J1 := isJ_frac ro.D0 vo.D0 cx (own_exp ro hp hx)
  have J2 := own_exp vo hp hx
  have U0 : 0 < r.val.A f * x := Int.mul_pos vo.A0 hx
  have hst : (expOf f (r.run.num * x) r.run.den - f.low).toNat = (expOf f (r.val.num * x) r.val.den - f.low).toNat := by
    have t2 : Two f.p f.J (r.val.D f) (r.val.A f * x) (r.val.A f * x) _ _ := ⟨hp, vo.D0, U0, Int.le_refl _, by rw [Int.sub_self, Int.mul_zero]; omega, J1, J2⟩
    have t3 : Two f.p f.J (r.val.D f) (r.val.A f * x) (r.val.A f * x) _ _ := ⟨hp, vo.D0, U0, Int.le_refl _, by rw [Int.sub_self, Int.mul_zero]; omega, J2, J1⟩
    have q1 := t2.step
    have q2 := t3.step
    omega
  unfold tell
  rw [hst]
  exact kindJ_frac .read f.p f.J w _ ro.D0 vo.D0 cx
/-! ### the pieces that pairs makes -/
/-- a piece of a pick: both exponents are those of its first number -/
structure Piece.Of (q : Piece) (f : Fo) (w : Way) (pk : Pick) (a b : Int) : Prop where
  lo : q.lo = a
  hi : q.hi = b
  lower : q.lower = stairOn pk.k1 f w pk.s1 (expOf f (pk.s1.num * a) pk.s1.den)
  upper : q.upper = stairOn pk.k2 f w pk.s2 (expOf f (pk.s2.num * a) pk.s2.den)
/-- all pieces of a pick, from its cuts -/
structure Pieces (f : Fo) (w : Way) (pk : Pick) (last : Int) (ns : List Int) (qs : List Piece) : Prop where
  cuts : Cuts f last [pk.s1, pk.s2] ns
  len : qs.length + 1 = ns.length
  each : ∀ (i : Nat) (q : Piece), qs[i]? = some q → ∃ lo hi, ns[i]? = some lo ∧ ns[i + 1]? = some hi ∧ q.Of f w pk lo hi
theorem Pieces.chain {f : Fo} {w : Way} {pk : Pick} {last : Int} {ns : List Int} {qs : List Piece} (h : Pieces f w pk last ns qs) (hl : 1 ≤ last) (hp : 1 ≤ f.p) (h1 : pk.s1.Ok) (h2 : pk.s2.Ok) {g : Int → Int}
    (hg : ∀ x, 1 ≤ x → x ≤ last → pk.diff f w x = g x) : Chain g 1 (last + 1) qs := by
  have hs : ∀ s ∈ [pk.s1, pk.s2], s.Ok := fun s hs => by
    rcases List.mem_cons.mp hs with rfl | hs
    · exact h1
    · rw [List.mem_singleton.mp hs]; exact h2
  obtain ⟨e1, e2⟩ := h.cuts.head hl hs
  refine chain_of h.cuts.up h.len e1 e2 fun i q hq => ?_
  obtain ⟨lo, hi, k1, k2, k3⟩ := h.each i q hq
  refine ⟨lo, hi, k1, k2, k3.lo, k3.hi, fun x hx hx2 => ?_⟩
  have m1 : lo ∈ ns := List.mem_of_getElem? k1
  have m2 : hi ∈ ns := List.mem_of_getElem? k2
  have r1 := h.cuts.range hl hs m1
  have r2 := h.cuts.range hl hs m2
  have no := no_between h.cuts.up k1 k2
  have c1 := h.cuts.const hl hs m1 m2 no (s := pk.s1) List.mem_cons_self hx hx2
  have c2 := h.cuts.const hl hs m1 m2 no (s := pk.s2) (by simp) hx hx2
  rw [← hg x (by omega) (by omega)]
  show stairAt q.upper x - stairAt q.lower x = _
  rw [k3.lower, k3.upper]
  have x1 := expOf_range f (pk.s1.num * lo) pk.s1.den
  have x2 := expOf_range f (pk.s2.num * lo) pk.s2.den
  rw [stairOn_at h1 pk.k1 w x x1.1 x1.2, stairOn_at h2 pk.k2 w x x2.1 x2.2]
  unfold Pick.diff tell
  rw [c1, c2]
/-- is the number k + 1 wrong -/
def Row.wrong (r : Row) (f : Fo) (w : Way) (k : Nat) : Bool := decide ((if 0 < r.h then tell .up f w r.run ((k : Int) + 1) else tell .read f w r.run ((k : Int) + 1)) ≠ tell .read f w r.val ((k : Int) + 1))
theorem Row.pick_g {r : Row} {f : Fo} (o : r.Ok) (hh : 1 ≤ r.h) (hp : 1 ≤ f.p) (so : r.Sound) (fi : r.Fine f) (w : Way) {x : Int} (hx : 1 ≤ x) : (r.pick w).diff f w x = gOf (r.wrong f w) x := by
  rw [Row.pick_diff o hh hp so fi w (by omega)]
  unfold gOf Row.wrong
  rw [if_pos (show 0 < r.h by omega)]
  have e : (((x - 1).toNat : Nat) : Int) + 1 = x := by omega
  rw [e]
  by_cases h : tell .up f w r.run x ≠ tell .read f w r.val x
  · rw [if_pos h, if_pos (decide_eq_true h)]
  · rw [if_neg h, if_neg (by rw [decide_eq_false h]; exact Bool.false_ne_true)]
theorem wl_none {P : Nat → Bool} (h : ∀ k, P k = false) (n : Nat) : wl P n = [] := by
  unfold wl
  have : (List.range n).filter P = [] := List.filter_eq_nil_iff.mpr fun k _ => by rw [h k]; exact Bool.false_ne_true
  rw [this]; rfl
theorem Row.wrong_exact {r : Row} {f : Fo} (o : r.Ok) (hh : r.h = 0) (so : r.Sound) (hp : 1 ≤ f.p) (w : Way) (n : Nat) : wl (r.wrong f w) n = [] := by
  refine wl_none (fun k => ?_) n
  unfold Row.wrong
  rw [if_neg (by omega)]
  exact decide_eq_false fun z => z (Row.exact o hh so hp w (by omega))
theorem Row.pick_ok {r : Row} (o : r.Ok) (w : Way) : (r.pick w).s1.Ok ∧ (r.pick w).s2.Ok := by
  unfold Row.pick
  split <;> split <;> exact ⟨by first | exact o.run_ok | exact r.val_ok, by first | exact o.run_ok | exact r.val_ok⟩
end K45
/-! ## MTen -/
namespace K45
/-- the states of ten's loop: power, found, base, left -/
def tenL : List (Int × Int × Int × Int) := [(1, 1, 10, 1), (1, 10, 100, 0), (2, 1, 10, 2), (2, 1, 100, 1), (2, 100, 10000, 0), (3, 1, 10, 3), (3, 10, 100, 1), (3, 1000, 10000, 0),
  (4, 1, 10, 4), (4, 1, 100, 2), (4, 1, 10000, 1), (4, 10000, 100000000, 0), (5, 1, 10, 5), (5, 10, 100, 2), (5, 10, 10000, 1), (5, 100000, 100000000, 0)]
def tenW (n f b l : Int) : Prop := (n ≤ 0 ∧ f = 1 ∧ b = 10 ∧ l = n) ∨ (n, f, b, l) ∈ tenL
theorem tenW_start {n : Int} (h : n ≤ 5) : tenW n 1 10 n := by
  by_cases h0 : n ≤ 0
  · exact .inl ⟨h0, rfl, rfl, rfl⟩
  · have e : n = 1 ∨ n = 2 ∨ n = 3 ∨ n = 4 ∨ n = 5 := by omega
    rcases e with rfl | rfl | rfl | rfl | rfl <;> exact .inr (by decide)
theorem tenW_facts {n f b l : Int} (h : tenW n f b l) : l ≤ 5 ∧ 1 ≤ f ∧ f ≤ 100000 ∧ 1 ≤ b ∧ b ≤ 100000000 := by
  rcases h with h | h
  · omega
  · have key : ∀ x ∈ tenL, x.2.2.2 ≤ 5 ∧ 1 ≤ x.2.1 ∧ x.2.1 ≤ 100000 ∧ 1 ≤ x.2.2.1 ∧ x.2.2.1 ≤ 100000000 := by decide
    exact key _ h
theorem tenW_odd {n f b l : Int} (h : tenW n f b l) (hl : 0 < l) (ho : l % 2 = 1) : tenW n (f * b) (b * b) (l / 2) := by
  rcases h with h | h
  · omega
  · have key : ∀ x ∈ tenL, 0 < x.2.2.2 → x.2.2.2 % 2 = 1 → (x.1, x.2.1 * x.2.2.1, x.2.2.1 * x.2.2.1, x.2.2.2 / 2) ∈ tenL := by decide
    exact .inr (key _ h hl ho)
theorem tenW_even {n f b l : Int} (h : tenW n f b l) (hl : 0 < l) (ho : ¬ l % 2 = 1) : tenW n f (b * b) (l / 2) := by
  rcases h with h | h
  · omega
  · have key : ∀ x ∈ tenL, 0 < x.2.2.2 → ¬ x.2.2.2 % 2 = 1 → (x.1, x.2.1, x.2.2.1 * x.2.2.1, x.2.2.2 / 2) ∈ tenL := by decide
    exact .inr (key _ h hl ho)
theorem tenW_end {n f b l : Int} (h : tenW n f b l) (hl : ¬ 0 < l) : f = tenP n := by
  rcases h with h | h
  · have e2 : tenP n = 1 := by
      unfold tenP
      rw [show n.toNat = 0 by omega]; rfl
    omega
  · have key : ∀ x ∈ tenL, ¬ 0 < x.2.2.2 → x.2.1 = tenP x.1 := by decide
    exact key _ h hl
end K45
/-! ## W1 -/
namespace K45
open PySem PySem.Spec PyProof.Rows L2
/-! ### promises -/
/-- 10 ** n -/
def spTen : Sp := fun vs H Q _ => ∃ n : Int, vs = [.int n] ∧ n ≤ 5 ∧ Q (.int (tenP n)) H
section
variable {P : Program} {w : World} {K : PySem.W.Frag} {mg : Str → Option Value} {base : Heap}
theorem sc_ten : FnScope ["power", "found", "base", "left"] ["power"] (defScope s_ten) := ⟨rfl, rfl, rfl, by decide +kernel, rfl, by decide +kernel, by decide +kernel⟩
theorem cl_ten (D : DefAt K mg "ten" s_ten) : Cl P w K mg base CX0 1 "ten" spTen := by
  refine cl_of D (fun _ _ _ _ _ _ us hl => match us, hl with | [_], _ => rfl) sc_ten (fun vs H Q E h => ?_) (fun f cdv A outer s H vs Q E hr h => ?_)
  · obtain ⟨n, rfl, _⟩ := h
    rfl
  · obtain ⟨n, rfl, hn, hQ⟩ := h
    refine ⟨_, PSs.nox (pss_cons (ps_par3 (i := 1) (j := 2) (l := 3) rfl sc_ten.nd rfl rfl rfl (by decide) (by decide) (by decide) rfl rfl rfl (pa_cons pe_int (pa_cons pe_int (pa_cons (pv 0) pa_nil))) (by rfl))
      (pss_cons (ps_while PassesOwn.never (pt_cmpR op_gt (pv 3) pe_int (nomark _))
        (pss_cons (ps_if (pt_cmpR op_eq (pe_op op_mod (pv 3) pe_int) pe_int (nomark _)) (pss_one (ps_set (i := 1) sc_ten.nd rfl (Or.inl rfl) (pe_op op_mul (pv 1) (pv 2)))) pss_nil)
          (pss_one (ps_par (i := 2) (j := 3) rfl sc_ten.nd rfl rfl (by decide) rfl rfl (pa_cons (pe_op op_mul (pv 2) (pv 2)) (pa_cons (pe_op op_fdiv (pv 3) pe_int) pa_nil)) (by rfl)))))
      (pss_one (ps_ret (pv 1))))), ?_⟩
    refine ⟨_, rfl, _, _, _, rfl, ?_⟩
    refine ⟨fun m σ H' => ∃ f b l : Int, σ = [some (.int n), some (.int f), some (.int b), some (.int l)] ∧ tenW n f b l ∧ H' = H ∧ m = l.toNat, ⟨_, 1, 10, n, rfl, tenW_start hn, rfl, rfl⟩, ?_⟩
    rintro m σ H' ⟨f, b, l, rfl, hw, rfl, rfl⟩
    have hf := tenW_facts hw
    refine ⟨_, rfl, _, _, rfl, rfl, _, rfl, ?_⟩
    by_cases hl : 0 < l
    · rw [decide_eq_true hl]
      refine iteT ⟨_, fun _ _ h => h, ?_⟩
      refine ⟨_, rfl, _, _, rfl, rfl, (by show (0 : Int) < 2; decide), rfl, _, rfl, ?_⟩
      by_cases ho : l % 2 = 1
      · rw [decide_eq_true (show (V.int (l % 2) = V.int 1) by rw [ho])]
        refine iteT ⟨_, rfl, _, rfl, _, _, rfl, rfl, .inl ⟨by omega, by omega⟩, ?_⟩
        refine ⟨_, rfl, _, rfl, _, _, rfl, rfl, .inl ⟨by omega, by omega⟩, _, rfl, _, _, rfl, rfl, ⟨by decide, by decide⟩, _, _, rfl, ?_⟩
        exact ⟨_, (show (l / 2).toNat < l.toNat by omega), _, _, _, rfl, tenW_odd hw hl ho, rfl, rfl⟩
      · rw [decide_eq_false (show ¬ (V.int (l % 2) = V.int 1) from fun z => ho (V.int.inj z))]
        refine iteF ?_
        refine ⟨_, rfl, _, rfl, _, _, rfl, rfl, .inl ⟨by omega, by omega⟩, _, rfl, _, _, rfl, rfl, ⟨by decide, by decide⟩, _, _, rfl, ?_⟩
        exact ⟨_, (show (l / 2).toNat < l.toNat by omega), _, _, _, rfl, tenW_even hw hl ho, rfl, rfl⟩
    · rw [decide_eq_false hl]
      refine iteF ⟨_, rfl, ?_⟩
      have e := tenW_end hw hl
      subst e
      exact hQ
end
end K45
/-! ## W2 -/
namespace K45
open PySem PySem.Spec PyProof.Rows L2
/-! ### what stands on the heap -/
def SlAt (H : Hp) (a : Addr) (s : Sl) : Prop := H a = some (.tup [.int s.num, .int s.den])
def FoAt (H : Hp) (a : Addr) (f : Fo) : Prop := H a = some (.tup [.int f.p, .int f.low, .int f.high])
def RowAt (H : Hp) (a : Addr) (r : Row) : Prop := H a = some (.tup [.int r.P, .int r.g, .int r.s, .int r.h])
def LnAt (H : Hp) (a : Addr) (l : Line) : Prop := H a = some (.tup [.int l.a, .int l.b, .int l.c])
structure FoB (f : Fo) : Prop where
  p1 : 1 ≤ f.p
  p5 : f.p ≤ 5
  l0 : -8 ≤ f.low
  l1 : f.low ≤ 4
  J8 : f.J ≤ 8
structure SlB (s : Sl) : Prop where
  n0 : 0 < s.num
  n1 : s.num < 2 ^ 60
  d0 : 0 < s.den
  d1 : s.den < 2 ^ 60
/-! ### promises -/
def spPF : Sp := fun vs H Q _ => ∃ z : Int, vs = [.int z] ∧ -5 ≤ z ∧ z ≤ 5 ∧ ∀ H' p, Same H H' → SlAt H' p ⟨tenP z, tenP (-z)⟩ → Q (.ref p) H'
def spShift : Sp := fun vs H Q _ => ∃ n d t : Int, vs = [.int n, .int d, .int t] ∧ n.natAbs < 2 ^ 64 ∧ d.natAbs < 2 ^ 64 ∧ -1000 ≤ t ∧ t ≤ 1000 ∧ ∀ H' p, Same H H' → SlAt H' p ⟨n * pp t, d * pp (-t)⟩ → Q (.ref p) H'
def spLog : Sp := fun vs H Q _ => ∃ n d : Int, vs = [.int n, .int d] ∧ 0 < n ∧ n < 2 ^ 62 ∧ 0 < d ∧ d < 2 ^ 62 ∧ ∀ H', Same H H' → Q (.int (floorLog n d)) H'
def spHalf : Sp := fun vs H Q _ => ∃ (a : Addr) (f : Fo), vs = [.ref a] ∧ FoAt H a f ∧ FoB f ∧ Q (.int (half f.p)) H
def spCount : Sp := fun vs H Q _ => ∃ (a : Addr) (f : Fo), vs = [.ref a] ∧ FoAt H a f ∧ FoB f ∧ Q (.int f.many) H
section
variable {P : Program} {w : World} {K : PySem.W.Frag} {mg : Str → Option Value} {base : Heap}
theorem sc_pf : FnScope ["power"] ["power"] (defScope s_power_fraction) := ⟨rfl, rfl, rfl, by decide +kernel, rfl, by decide +kernel, by decide +kernel⟩
theorem cl_pf (D : DefAt K mg "power_fraction" s_power_fraction) (cT : Cl P w K mg base CX0 1 "ten" spTen) : Cl P w K mg base CX0 2 "power_fraction" spPF := by
  refine cl_of D (fun _ _ _ _ _ _ us hl => match us, hl with | [_], _ => rfl) sc_pf (fun vs H Q E h => ?_) (fun f cdv A outer s H vs Q E hr h => ?_)
  · obtain ⟨n, rfl, _⟩ := h
    rfl
  · obtain ⟨z, rfl, h0, h1, hQ⟩ := h
    refine ⟨_, PSs.nox (pss_one (ps_ret (pe_ifExp (pt_cmpR op_ge (pv 0) pe_int (nomark _)) (pe_tup (pa_cons (pe_cl cT hr (by decide) pass0 (pa_cons (pv 0) pa_nil)) (pa_cons pe_int pa_nil)))
      (pe_tup (pa_cons pe_int (pa_cons (pe_cl cT hr (by decide) pass0 (pa_cons (pe_op op_sub pe_int (pv 0)) pa_nil)) pa_nil)))))), ?_⟩
    refine ⟨_, rfl, _, _, rfl, rfl, _, rfl, ?_⟩
    have fin : ∀ (x y : Int), x = tenP z → y = tenP (-z) → ∀ p, H p = none → Q (.ref p) (upd H p (.tup [.int x, .int y])) := fun x y hx hy p hp => by
      subst hx hy
      exact hQ _ p (same_of_upd hp) upd_same
    by_cases hz : 0 ≤ z
    · rw [decide_eq_true hz]
      refine iteT ⟨_, rfl, z, rfl, h1, (by show 2 ≤ sizeLine; decide), fin _ _ rfl ?_⟩
      unfold tenP
      rw [show (-z).toNat = 0 by omega]; rfl
    · rw [decide_eq_false hz]
      refine iteF ⟨_, rfl, _, _, rfl, rfl, 0 - z, rfl, by omega, (by show 2 ≤ sizeLine; decide), fin _ _ ?_ ?_⟩
      · unfold tenP
        rw [show z.toNat = 0 by omega]; rfl
      · rw [Int.zero_sub]
theorem sc_shift : FnScope ["num", "den", "shift"] ["num", "den", "shift"] (defScope s_shifted) := ⟨rfl, rfl, rfl, by decide +kernel, rfl, by decide +kernel, by decide +kernel⟩
theorem cl_shift (D : DefAt K mg "shifted" s_shifted) : Cl P w K mg base CX0 1 "shifted" spShift := by
  refine cl_of D (fun _ _ _ _ _ _ us hl => match us, hl with | [_, _, _], _ => rfl) sc_shift (fun vs H Q E h => ?_) (fun f cdv A outer s H vs Q E hr h => ?_)
  · obtain ⟨n, d, t, rfl, _⟩ := h
    rfl
  · obtain ⟨n, d, t, rfl, hn, hd, t0, t1, hQ⟩ := h
    refine ⟨_, PSs.nox (pss_one (ps_ret (pe_ifExp (pt_cmpR op_ge (pv 2) pe_int (nomark _)) (pe_tup (pa_cons (pe_op op_shl (pv 0) (pv 2)) (pa_cons (pv 1) pa_nil)))
      (pe_tup (pa_cons (pv 0) (pa_cons (pe_op op_shl (pv 1) (pe_op op_sub pe_int (pv 2))) pa_nil)))))), ?_⟩
    refine ⟨_, rfl, _, _, rfl, rfl, _, rfl, ?_⟩
    have fin : ∀ (x y : Int), x = n * pp t → y = d * pp (-t) → ∀ p, H p = none → Q (.ref p) (upd H p (.tup [.int x, .int y])) := fun x y hx hy p hp => by
      subst hx hy
      exact hQ _ p (same_of_upd hp) upd_same
    by_cases hz : 0 ≤ t
    · rw [decide_eq_true hz]
      refine iteT ⟨_, rfl, _, rfl, _, _, rfl, rfl, ⟨hz, by omega, hn⟩, _, rfl, (by show 2 ≤ sizeLine; decide), fin _ _ rfl ?_⟩
      rw [pp_neg (by omega), Int.mul_one]
    · rw [decide_eq_false hz]
      refine iteF ⟨_, rfl, _, rfl, _, rfl, _, _, rfl, rfl, _, _, rfl, rfl, ⟨by omega, by omega, hd⟩, (by show 2 ≤ sizeLine; decide), fin _ _ ?_ ?_⟩
      · rw [pp_neg (by omega), Int.mul_one]
      · rw [Int.zero_sub]; rfl
theorem sc_log : FnScope ["num", "den", "t", "low", "high"] ["num", "den"] (defScope s_floor_log) := ⟨rfl, rfl, rfl, by decide +kernel, rfl, by decide +kernel, by decide +kernel⟩
theorem bits_le {n : Int} (h0 : 0 < n) (h1 : n < 2 ^ 62) : bits n ≤ 62 := by
  obtain ⟨a, b, c⟩ := bits_spec h0
  refine Nat.not_lt.mp fun h => ?_
  have := p2mono (a := 62) (b := bits n - 1) (by omega)
  omega
theorem cl_log (D : DefAt K mg "floor_log" s_floor_log) (cS : Cl P w K mg base CX0 1 "shifted" spShift) : Cl P w K mg base CX0 2 "floor_log" spLog := by
  refine cl_of D (fun _ _ _ _ _ _ us hl => match us, hl with | [_, _], _ => rfl) sc_log (fun vs H Q E h => ?_) (fun f cdv A outer s H vs Q E hr h => ?_)
  · obtain ⟨n, d, rfl, _⟩ := h
    rfl
  · obtain ⟨n, d, rfl, n0, n1, d0, d1, hQ⟩ := h
    refine ⟨_, PSs.nox (pss_cons (ps_set (i := 2) sc_log.nd rfl (Or.inl rfl) (pe_op op_sub (pe_bits (pv 0)) (pe_bits (pv 1))))
      (pss_cons (ps_asg (pe_cl cS hr (by decide) pass0 (pa_cons (pv 1) (pa_cons pe_int (pa_cons (pv 2) pa_nil)))) (pg_tup rfl (pgs_cons (pg_name (i := 3) sc_log.nd rfl (Or.inl rfl)) (pgs_cons (pg_name (i := 4) sc_log.nd rfl (Or.inl rfl)) pgs_nil))))
      (pss_one (ps_ret (pe_ifExp (pt_cmpR op_ge (pe_op op_mul (pv 0) (pv 4)) (pv 3) (nomark _)) (pv 2) (pe_op op_sub (pv 2) pe_int)))))), ?_⟩
    have b1 := bits_le n0 n1
    have b2 := bits_le d0 d1
    refine ⟨_, rfl, n, rfl, _, rfl, d, rfl, _, _, rfl, rfl, ?_⟩
    show tSeq _ _ _ [some (.int n), some (.int d), some (.int ((bits n : Int) - (bits d : Int))), none, none] H
    refine ⟨_, rfl, _, rfl, d, 1, (bits n : Int) - bits d, rfl, by omega, by decide, by omega, by omega, fun H1 p hs hp => ?_⟩
    refine ⟨p, _, rfl, SqT.of hp, rfl, _, _, rfl, _, _, rfl, rfl, ?_⟩
    refine ⟨_, rfl, _, rfl, _, _, rfl, rfl, .inl ⟨by omega, by omega⟩, _, rfl, _, _, rfl, rfl, _, rfl, ?_⟩
    have e : floorLog n d = if d * pp ((bits n : Int) - bits d) ≤ n * pp (-((bits n : Int) - bits d)) then (bits n : Int) - bits d else (bits n : Int) - bits d - 1 := rfl
    have hq := hQ H1 hs
    rw [e] at hq
    rw [Int.one_mul]
    by_cases hc : d * pp ((bits n : Int) - bits d) ≤ n * pp (-((bits n : Int) - bits d))
    · rw [if_pos hc] at hq
      rw [decide_eq_true hc]
      exact iteT ⟨_, rfl, hq⟩
    · rw [if_neg hc] at hq
      rw [decide_eq_false hc]
      exact iteF ⟨_, rfl, _, _, rfl, rfl, hq⟩
theorem sc_half : FnScope ["form"] ["form"] (defScope s_half_of) := ⟨rfl, rfl, rfl, by decide +kernel, rfl, by decide +kernel, by decide +kernel⟩
theorem cl_half (D : DefAt K mg "half_of" s_half_of) : Cl P w K mg base CX0 1 "half_of" spHalf := by
  refine cl_of D (fun _ _ _ _ _ _ us hl => match us, hl with | [_], _ => rfl) sc_half (fun vs H Q E h => ?_) (fun f cdv A outer s H vs Q E hr h => ?_)
  · obtain ⟨a, f, rfl, _⟩ := h
    rfl
  · obtain ⟨a, f, rfl, hf, hb, hQ⟩ := h
    refine ⟨_, PSs.nox (pss_one (ps_ret (pe_op op_shl pe_int (pe_op op_sub (pe_ix ix_tup (pv 0) pe_int (fun _ _ => rfl)) pe_int)))), ?_⟩
    have p1 := hb.p1
    have p5 := hb.p5
    refine ⟨_, rfl, a, _, 0, .int f.p, rfl, rfl, SqT.of hf, rfl, _, _, rfl, rfl, _, _, rfl, rfl, ⟨by omega, by omega, by decide⟩, ?_⟩
    have e : (1 : Int) * 2 ^ ((f.p : Int) - 1).toNat = half f.p := by
      unfold half
      rw [Int.one_mul, show ((f.p : Int) - 1).toNat = f.p - 1 by omega]
    show Q (.int (1 * 2 ^ ((f.p : Int) - 1).toNat)) H
    rw [e]
    exact hQ
theorem sc_count : FnScope ["form", "precision", "low", "high"] ["form"] (defScope s_count_of) := ⟨rfl, rfl, rfl, by decide +kernel, rfl, by decide +kernel, by decide +kernel⟩
theorem cl_count (D : DefAt K mg "count_of" s_count_of) (cH : Cl P w K mg base CX0 1 "half_of" spHalf) : Cl P w K mg base CX0 2 "count_of" spCount := by
  refine cl_of D (fun _ _ _ _ _ _ us hl => match us, hl with | [_], _ => rfl) sc_count (fun vs H Q E h => ?_) (fun f cdv A outer s H vs Q E hr h => ?_)
  · obtain ⟨a, f, rfl, _⟩ := h
    rfl
  · obtain ⟨a, f, rfl, hf, hb, hQ⟩ := h
    refine ⟨_, PSs.nox (pss_cons (ps_asg (pv 0) (pg_tup rfl (pgs_cons (pg_name (i := 1) sc_count.nd rfl (Or.inl rfl)) (pgs_cons (pg_name (i := 2) sc_count.nd rfl (Or.inl rfl)) (pgs_cons (pg_name (i := 3) sc_count.nd rfl (Or.inl rfl)) pgs_nil)))))
      (pss_one (ps_ret (pe_op op_mul (pe_op op_add (pe_op op_sub (pv 3) (pv 2)) pe_int) (pe_cl cH hr (by decide) pass0 (pa_cons (pv 0) pa_nil)))))), ?_⟩
    have J8 := hb.J8
    refine ⟨_, rfl, a, _, rfl, SqT.of hf, rfl, _, _, rfl, _, _, rfl, _, _, rfl, rfl, ?_⟩
    refine ⟨_, rfl, _, rfl, _, _, rfl, rfl, _, _, rfl, rfl, _, rfl, a, f, rfl, hf, hb, ?_⟩
    have e : f.high - f.low + 2 = (f.J : Int) + 2 := by unfold Fo.high; omega
    refine ⟨_, _, rfl, rfl, .inl ⟨by omega, by omega⟩, ?_⟩
    show Q (.int ((f.high - f.low + 2) * half f.p)) H
    rw [e]
    exact hQ
end
end K45
/-! ## W3 -/
namespace K45
open PySem PySem.Spec PyProof.Rows L2
structure RowB (r : Row) : Prop where
  g1 : 1 ≤ r.g
  g2 : r.g < 2 ^ 14
  s0 : -50 ≤ r.s
  s1 : r.s ≤ 30
  h0 : 0 ≤ r.h
  h3 : r.h ≤ 3
  P0 : -5 ≤ r.P
  P5 : r.P ≤ 5
theorem RowB.ok {r : Row} (b : RowB r) : r.Ok := ⟨b.g1, b.h0⟩
theorem mul_lt_p {a b : Int} {m n : Nat} (ha : 0 < a) (ha2 : a < 2 ^ m) (hb : 0 < b) (hb2 : b ≤ 2 ^ n) : 0 < a * b ∧ a * b < 2 ^ (m + n) := by
  refine ⟨Int.mul_pos ha hb, ?_⟩
  rw [p2add]
  have h1 : a * b ≤ a * 2 ^ n := Int.mul_le_mul_of_nonneg_left hb2 (by omega)
  have h2 : a * 2 ^ n < 2 ^ m * 2 ^ n := Int.mul_lt_mul_of_pos_right ha2 (p2pos n)
  omega
theorem pp_le {z : Int} {n : Nat} (h : z ≤ n) : pp z ≤ 2 ^ n := p2mono (by omega)
theorem abs_lt {a : Int} {n : Nat} (h0 : 0 < a) (h : a < 2 ^ n) : a.natAbs < 2 ^ n := by
  have e : ((a.natAbs : Nat) : Int) = a := by omega
  have h2 : ((a.natAbs : Nat) : Int) < ((2 ^ n : Nat) : Int) := by
    rw [e, Int.natCast_pow]; exact h
  exact Int.ofNat_lt.mp h2
theorem div_ok {i a : Int} {n : Nat} (h0 : 0 < a) (h : a < 2 ^ n) (hn : 0 < n) (hn2 : n ≤ 9000) : CDivW i a := wide_div h0 (abs_lt h0 h) hn hn2
theorem RowB.run_b {r : Row} (b : RowB r) : SlB r.run := by
  obtain ⟨g1, g2, s0, s1, _⟩ := b
  obtain ⟨h1, h2⟩ := mul_lt_p (m := 14) (n := 30) (show 0 < r.g by omega) g2 (pp_pos r.s) (pp_le (by omega))
  have h3 := pp_le (z := -r.s) (n := 50) (by omega)
  refine ⟨h1, ?_, pp_pos _, ?_⟩
  · show r.g * pp r.s < _
    omega
  · show pp (-r.s) < _
    omega
theorem RowB.top_b {r : Row} (b : RowB r) : SlB r.top := by
  obtain ⟨g1, g2, s0, s1, h0, h3, _⟩ := b
  obtain ⟨h1, h2⟩ := mul_lt_p (m := 15) (n := 30) (show 0 < r.g + r.h by omega) (by omega) (pp_pos r.s) (pp_le (by omega))
  have h3 := pp_le (z := -r.s) (n := 50) (by omega)
  refine ⟨h1, ?_, pp_pos _, ?_⟩
  · show (r.g + r.h) * pp r.s < _
    omega
  · show pp (-r.s) < _
    omega
theorem tenP_le {z : Int} (h : z ≤ 5) : tenP z ≤ 100000 := by
  unfold tenP
  have e : z.toNat = 0 ∨ z.toNat = 1 ∨ z.toNat = 2 ∨ z.toNat = 3 ∨ z.toNat = 4 ∨ z.toNat = 5 := by omega
  rcases e with e | e | e | e | e | e <;> rw [e] <;> decide
theorem RowB.val_b {r : Row} (b : RowB r) : SlB r.val := by
  have h1 := tenP_le (z := r.P) b.P5
  have h2 := tenP_le (z := -r.P) (by have := b.P0; omega)
  refine ⟨tenP_pos _, ?_, tenP_pos _, ?_⟩
  · show tenP r.P < _
    omega
  · show tenP (-r.P) < _
    omega
theorem SlB.ok {s : Sl} (b : SlB s) : s.Ok := ⟨b.n0, b.d0⟩
/-! ### promises -/
def spRun : Sp := fun vs H Q _ => ∃ (a : Addr) (r : Row), vs = [.ref a] ∧ RowAt H a r ∧ RowB r ∧ ∀ H' p, Same H H' → SlAt H' p r.run → Q (.ref p) H'
def spTop : Sp := fun vs H Q _ => ∃ (a : Addr) (r : Row), vs = [.ref a] ∧ RowAt H a r ∧ RowB r ∧ ∀ H' p, Same H H' → SlAt H' p r.top → Q (.ref p) H'
def spAbove : Sp := fun vs H Q _ => ∃ (a b : Addr) (x y : Sl), vs = [.ref a, .ref b] ∧ SlAt H a x ∧ SlAt H b y ∧ SlB x ∧ SlB y ∧ Q (.bl (decide (above x y))) H
def spExp : Sp := fun vs H Q _ => ∃ (a : Addr) (f : Fo) (n d : Int), vs = [.ref a, .int n, .int d] ∧ FoAt H a f ∧ FoB f ∧ 0 < n ∧ n < 2 ^ 62 ∧ 0 < d ∧ d < 2 ^ 62 ∧ ∀ H', Same H H' → Q (.int (expOf f n d)) H'
def spStart : Sp := fun vs H Q _ => ∃ (a b : Addr) (f : Fo) (x : Sl) (e : Int), vs = [.ref a, .ref b, .int e] ∧ FoAt H a f ∧ FoB f ∧ SlAt H b x ∧ SlB x ∧ f.low ≤ e ∧ e ≤ f.high + 1 ∧ Q (.int (startOf f x e)) H
def spPosL : Sp := fun vs H Q _ => ∃ (a b : Addr) (f : Fo) (x : Sl) (e : Int), vs = [.ref a, .ref b, .int e] ∧ FoAt H a f ∧ FoB f ∧ SlAt H b x ∧ SlB x ∧ f.low ≤ e ∧ e ≤ f.high + 1 ∧ ∀ H' p, Same H H' → LnAt H' p (posLine f x e) → Q (.ref p) H'
section
variable {P : Program} {w : World} {K : PySem.W.Frag} {mg : Str → Option Value} {base : Heap}
theorem sc_run : FnScope ["row"] ["row"] (defScope s_run_slope) := ⟨rfl, rfl, rfl, by decide +kernel, rfl, by decide +kernel, by decide +kernel⟩
theorem cl_run (D : DefAt K mg "run_slope" s_run_slope) (cS : Cl P w K mg base CX0 1 "shifted" spShift) : Cl P w K mg base CX0 2 "run_slope" spRun := by
  refine cl_of D (fun _ _ _ _ _ _ us hl => match us, hl with | [_], _ => rfl) sc_run (fun vs H Q E h => ?_) (fun f cdv A outer s H vs Q E hr h => ?_)
  · obtain ⟨a, r, rfl, _⟩ := h
    rfl
  · obtain ⟨a, r, rfl, hR, hb, hQ⟩ := h
    obtain ⟨g1, g2, s0, s1, _⟩ := id hb
    refine ⟨_, PSs.nox (pss_one (ps_ret (pe_cl cS hr (by decide) pass0 (pa_cons (pe_ix ix_tup (pv 0) pe_int (fun _ _ => rfl)) (pa_cons pe_int (pa_cons (pe_ix ix_tup (pv 0) pe_int (fun _ _ => rfl)) pa_nil)))))), ?_⟩
    refine ⟨_, rfl, a, _, 1, .int r.g, rfl, rfl, SqT.of hR, rfl, _, rfl, a, _, 2, .int r.s, rfl, rfl, SqT.of hR, rfl, r.g, 1, r.s, rfl, by omega, by decide, by omega, by omega, fun H1 p hs hp => hQ H1 p hs ?_⟩
    rw [Int.one_mul] at hp
    exact hp
theorem sc_top : FnScope ["row"] ["row"] (defScope s_top_slope) := ⟨rfl, rfl, rfl, by decide +kernel, rfl, by decide +kernel, by decide +kernel⟩
theorem cl_top (D : DefAt K mg "top_slope" s_top_slope) (cS : Cl P w K mg base CX0 1 "shifted" spShift) : Cl P w K mg base CX0 2 "top_slope" spTop := by
  refine cl_of D (fun _ _ _ _ _ _ us hl => match us, hl with | [_], _ => rfl) sc_top (fun vs H Q E h => ?_) (fun f cdv A outer s H vs Q E hr h => ?_)
  · obtain ⟨a, r, rfl, _⟩ := h
    rfl
  · obtain ⟨a, r, rfl, hR, hb, hQ⟩ := h
    obtain ⟨g1, g2, s0, s1, h0, h3, _⟩ := id hb
    refine ⟨_, PSs.nox (pss_one (ps_ret (pe_cl cS hr (by decide) pass0 (pa_cons (pe_op op_add (pe_ix ix_tup (pv 0) pe_int (fun _ _ => rfl)) (pe_ix ix_tup (pv 0) pe_int (fun _ _ => rfl))) (pa_cons pe_int (pa_cons (pe_ix ix_tup (pv 0) pe_int (fun _ _ => rfl)) pa_nil)))))), ?_⟩
    refine ⟨_, rfl, a, _, 1, .int r.g, rfl, rfl, SqT.of hR, rfl, _, rfl, a, _, 3, .int r.h, rfl, rfl, SqT.of hR, rfl, _, _, rfl, rfl, _, rfl, a, _, 2, .int r.s, rfl, rfl, SqT.of hR, rfl, r.g + r.h, 1, r.s, rfl, by omega, by decide, by omega, by omega, fun H1 p hs hp => hQ H1 p hs ?_⟩
    rw [Int.one_mul] at hp
    exact hp
theorem sc_above : FnScope ["one", "other"] ["one", "other"] (defScope s_is_above) := ⟨rfl, rfl, rfl, by decide +kernel, rfl, by decide +kernel, by decide +kernel⟩
theorem cl_above (D : DefAt K mg "is_above" s_is_above) : Cl P w K mg base CX0 1 "is_above" spAbove := by
  refine cl_of D (fun _ _ _ _ _ _ us hl => match us, hl with | [_, _], _ => rfl) sc_above (fun vs H Q E h => ?_) (fun f cdv A outer s H vs Q E hr h => ?_)
  · obtain ⟨a, b, x, y, rfl, _⟩ := h
    rfl
  · obtain ⟨a, b, x, y, rfl, hx, hy, bx, bY, hQ⟩ := h
    obtain ⟨x0, x1, x2, x3⟩ := bx
    obtain ⟨y0, y1, y2, y3⟩ := bY
    refine ⟨_, PSs.nox (pss_one (ps_ret (pe_cmpR op_gt (pe_op op_mul (pe_ix ix_tup (pv 0) pe_int (fun _ _ => rfl)) (pe_ix ix_tup (pv 1) pe_int (fun _ _ => rfl))) (pe_op op_mul (pe_ix ix_tup (pv 1) pe_int (fun _ _ => rfl)) (pe_ix ix_tup (pv 0) pe_int (fun _ _ => rfl))) (nomark _)))), ?_⟩
    refine ⟨_, rfl, a, _, 0, .int x.num, rfl, rfl, SqT.of hx, rfl, _, rfl, b, _, 1, .int y.den, rfl, rfl, SqT.of hy, rfl, _, _, rfl, rfl, .inl ⟨by omega, by omega⟩, ?_⟩
    refine ⟨_, rfl, b, _, 0, .int y.num, rfl, rfl, SqT.of hy, rfl, _, rfl, a, _, 1, .int x.den, rfl, rfl, SqT.of hx, rfl, _, _, rfl, rfl, .inl ⟨by omega, by omega⟩, _, _, rfl, rfl, ?_⟩
    exact hQ
theorem sc_exp : FnScope ["form", "num", "den", "p", "low", "high"] ["form", "num", "den"] (defScope s_exponent_of) := ⟨rfl, rfl, rfl, by decide +kernel, rfl, by decide +kernel, by decide +kernel⟩
theorem cl_exp (D : DefAt K mg "exponent_of" s_exponent_of) (gmin : mg "min" = none) (gmax : mg "max" = none) (cL : Cl P w K mg base CX0 2 "floor_log" spLog) : Cl P w K mg base CX0 3 "exponent_of" spExp := by
  refine cl_of D (fun _ _ _ _ _ _ us hl => match us, hl with | [_, _, _], _ => rfl) sc_exp (fun vs H Q E h => ?_) (fun f cdv A outer s H vs Q E hr h => ?_)
  · obtain ⟨a, f, n, d, rfl, _⟩ := h
    rfl
  · obtain ⟨a, f, n, d, rfl, hf, hb, n0, n1, d0, d1, hQ⟩ := h
    refine ⟨_, PSs.nox (pss_cons (ps_asg (pv 0) (pg_tup rfl (pgs_cons (pg_name (i := 3) sc_exp.nd rfl (Or.inl rfl)) (pgs_cons (pg_name (i := 4) sc_exp.nd rfl (Or.inl rfl)) (pgs_cons (pg_name (i := 5) sc_exp.nd rfl (Or.inl rfl)) pgs_nil)))))
      (pss_one (ps_ret (pe_callB (call_min2 rfl) (by rfl) gmin (by decide +kernel) (pa_cons (pe_op op_add (pv 5) pe_int) (pa_cons
        (pe_callB (call_max2 rfl) (by rfl) gmax (by decide +kernel) (pa_cons (pv 4) (pa_cons (pe_op op_add (pe_op op_sub (pe_cl cL hr (by decide) pass0 (pa_cons (pv 1) (pa_cons (pv 2) pa_nil))) (pv 3)) pe_int) pa_nil))) pa_nil)))))), ?_⟩
    refine ⟨_, rfl, a, _, rfl, SqT.of hf, rfl, _, _, rfl, _, _, rfl, _, _, rfl, rfl, ?_⟩
    refine ⟨_, rfl, _, _, rfl, rfl, _, rfl, _, rfl, _, rfl, n, d, rfl, n0, n1, d0, d1, fun H1 hs => ?_⟩
    refine ⟨_, rfl, _, _, rfl, rfl, _, _, rfl, rfl, _, _, rfl, _, _, rfl, ?_⟩
    have e : (if (if floorLog n d - (f.p : Int) + 1 > f.low then floorLog n d - (f.p : Int) + 1 else f.low) < f.high + 1 then (if floorLog n d - (f.p : Int) + 1 > f.low then floorLog n d - (f.p : Int) + 1 else f.low) else f.high + 1) = expOf f n d := by
      unfold expOf
      split <;> split <;> omega
    show Q (.int (if (if floorLog n d - (f.p : Int) + 1 > f.low then floorLog n d - (f.p : Int) + 1 else f.low) < f.high + 1 then (if floorLog n d - (f.p : Int) + 1 > f.low then floorLog n d - (f.p : Int) + 1 else f.low) else f.high + 1)) H1
    rw [e]
    exact hQ H1 hs
theorem max0 (z : Int) : (if z > 0 then z else 0).toNat = z.toNat := by split <;> omega
theorem sc_start : FnScope ["form", "slope", "exponent", "num", "den", "place"] ["form", "slope", "exponent"] (defScope s_start_of) := ⟨rfl, rfl, rfl, by decide +kernel, rfl, by decide +kernel, by decide +kernel⟩
theorem cl_start (D : DefAt K mg "start_of" s_start_of) (gmax : mg "max" = none) : Cl P w K mg base CX0 1 "start_of" spStart := by
  refine cl_of D (fun _ _ _ _ _ _ us hl => match us, hl with | [_, _, _], _ => rfl) sc_start (fun vs H Q E h => ?_) (fun f cdv A outer s H vs Q E hr h => ?_)
  · obtain ⟨a, b, f, x, e, rfl, _⟩ := h
    rfl
  · obtain ⟨a, b, f, x, e, rfl, hf, hb, hx, bx, e0, e1, hQ⟩ := h
    obtain ⟨x0, x1, x2, x3⟩ := bx
    obtain ⟨p1, p5, l0, l1, J8⟩ := hb
    have hh : f.high = f.low + f.J := rfl
    refine ⟨_, PSs.nox (pss_cons (ps_asg (pv 1) (pg_tup rfl (pgs_cons (pg_name (i := 3) sc_start.nd rfl (Or.inl rfl)) (pgs_cons (pg_name (i := 4) sc_start.nd rfl (Or.inl rfl)) pgs_nil))))
      (pss_cons (ps_set (i := 5) sc_start.nd rfl (Or.inl rfl) (pe_op op_add (pe_op op_sub (pe_ix ix_tup (pv 0) pe_int (fun _ _ => rfl)) pe_int) (pv 2)))
      (pss_one (ps_ret (pe_un un_neg (pe_op op_fdivW (pe_un un_neg (pe_op op_shl (pv 4) (pe_callB (call_max2 rfl) (by rfl) gmax (by decide +kernel) (pa_cons pe_int (pa_cons (pv 5) pa_nil)))))
        (pe_op op_shl (pv 3) (pe_callB (call_max2 rfl) (by rfl) gmax (by decide +kernel) (pa_cons pe_int (pa_cons (pe_un un_neg (pv 5)) pa_nil)))))))))), ?_⟩
    refine ⟨_, rfl, b, _, rfl, SqT.of hx, rfl, _, _, rfl, _, _, rfl, rfl, ?_⟩
    refine ⟨_, rfl, a, _, 0, .int f.p, rfl, rfl, SqT.of hf, rfl, _, _, rfl, rfl, _, rfl, _, _, rfl, rfl, ?_⟩
    have b1 : (if (f.p : Int) - 1 + e > 0 then (f.p : Int) - 1 + e else 0) ≤ 30 ∧ 0 ≤ (if (f.p : Int) - 1 + e > 0 then (f.p : Int) - 1 + e else 0) := by split <;> omega
    have b2 : (if -((f.p : Int) - 1 + e) > 0 then -((f.p : Int) - 1 + e) else 0) ≤ 30 ∧ 0 ≤ (if -((f.p : Int) - 1 + e) > 0 then -((f.p : Int) - 1 + e) else 0) := by split <;> omega
    refine ⟨_, rfl, _, rfl, _, _, rfl, _, _, rfl, rfl, ⟨b1.2, by omega, by omega⟩, _, rfl, ?_⟩
    refine ⟨_, rfl, _, rfl, _, rfl, _, _, rfl, _, _, rfl, rfl, ⟨b2.2, by omega, by omega⟩, ?_⟩
    have q := mul_lt_p (m := 60) (n := 30) x0 x1 (pp_pos (-((f.p : Int) - 1 + e))) (pp_le (by omega))
    have m1 := max0 ((f.p : Int) - 1 + e)
    have m2 := max0 (-((f.p : Int) - 1 + e))
    refine ⟨_, x.num * 2 ^ (if -((f.p : Int) - 1 + e) > 0 then -((f.p : Int) - 1 + e) else 0).toNat, rfl, rfl, div_ok (n := 90) (by rw [m2]; exact q.1) (by rw [m2]; exact q.2) (by decide) (by decide), _, rfl, ?_⟩
    show Q (.int (-(-(x.den * 2 ^ (if (f.p : Int) - 1 + e > 0 then (f.p : Int) - 1 + e else 0).toNat) / (x.num * 2 ^ (if -((f.p : Int) - 1 + e) > 0 then -((f.p : Int) - 1 + e) else 0).toNat)))) H
    rw [m1, m2]
    exact hQ
theorem sc_posl : FnScope ["form", "slope", "exponent", "p", "low", "high", "num", "den", "below"] ["form", "slope", "exponent"] (defScope s_position_line) := ⟨rfl, rfl, rfl, by decide +kernel, rfl, by decide +kernel, by decide +kernel⟩
theorem cl_posl (D : DefAt K mg "position_line" s_position_line) (gmax : mg "max" = none) : Cl P w K mg base CX0 1 "position_line" spPosL := by
  refine cl_of D (fun _ _ _ _ _ _ us hl => match us, hl with | [_, _, _], _ => rfl) sc_posl (fun vs H Q E h => ?_) (fun f cdv A outer s H vs Q E hr h => ?_)
  · obtain ⟨a, b, f, x, e, rfl, _⟩ := h
    rfl
  · obtain ⟨a, b, f, x, e, rfl, hf, hb, hx, bx, e0, e1, hQ⟩ := h
    obtain ⟨x0, x1, x2, x3⟩ := bx
    obtain ⟨p1, p5, l0, l1, J8⟩ := hb
    have hh : f.high = f.low + f.J := rfl
    refine ⟨_, PSs.nox (pss_cons (ps_asg (pv 0) (pg_tup rfl (pgs_cons (pg_name (i := 3) sc_posl.nd rfl (Or.inl rfl)) (pgs_cons (pg_name (i := 4) sc_posl.nd rfl (Or.inl rfl)) (pgs_cons (pg_name (i := 5) sc_posl.nd rfl (Or.inl rfl)) pgs_nil)))))
      (pss_cons (ps_asg (pv 1) (pg_tup rfl (pgs_cons (pg_name (i := 6) sc_posl.nd rfl (Or.inl rfl)) (pgs_cons (pg_name (i := 7) sc_posl.nd rfl (Or.inl rfl)) pgs_nil))))
      (pss_cons (ps_set (i := 8) sc_posl.nd rfl (Or.inl rfl) (pe_op op_shl (pv 7) (pe_callB (call_max2 rfl) (by rfl) gmax (by decide +kernel) (pa_cons pe_int (pa_cons (pv 2) pa_nil)))))
      (pss_one (ps_ret (pe_tup (pa_cons (pe_op op_shl (pv 6) (pe_callB (call_max2 rfl) (by rfl) gmax (by decide +kernel) (pa_cons pe_int (pa_cons (pe_un un_neg (pv 2)) pa_nil))))
        (pa_cons (pe_op op_mul (pe_op op_shl (pe_op op_sub (pv 2) (pv 4)) (pe_op op_sub (pv 3) pe_int)) (pv 8)) (pa_cons (pv 8) pa_nil))))))))), ?_⟩
    refine ⟨_, rfl, a, _, rfl, SqT.of hf, rfl, _, _, rfl, _, _, rfl, _, _, rfl, rfl, ?_⟩
    refine ⟨_, rfl, b, _, rfl, SqT.of hx, rfl, _, _, rfl, _, _, rfl, rfl, ?_⟩
    have b1 : (if e > 0 then e else 0) ≤ 30 ∧ 0 ≤ (if e > 0 then e else 0) := by split <;> omega
    have b2 : (if -e > 0 then -e else 0) ≤ 30 ∧ 0 ≤ (if -e > 0 then -e else 0) := by split <;> omega
    refine ⟨_, rfl, _, rfl, _, _, rfl, _, _, rfl, rfl, ⟨b1.2, by omega, by omega⟩, ?_⟩
    refine ⟨_, rfl, _, rfl, _, rfl, _, _, rfl, _, _, rfl, rfl, ⟨b2.2, by omega, by omega⟩, ?_⟩
    refine ⟨_, rfl, _, rfl, _, _, rfl, rfl, _, rfl, _, _, rfl, rfl, _, _, rfl, rfl, ⟨by omega, by omega, by omega⟩, ?_⟩
    have hp : (2 : Int) ^ ((f.p : Int) - 1).toNat = half f.p := by
      unfold half
      rw [show ((f.p : Int) - 1).toNat = f.p - 1 by omega]
    have hhf : half f.p ≤ 16 := p2mono (a := f.p - 1) (b := 4) (by omega)
    have hh0 := half_pos f.p
    have m1 : 0 ≤ (e - f.low) * half f.p := Int.mul_nonneg (by omega) (by omega)
    have m2 : (e - f.low) * half f.p ≤ 20 * 16 := Int.mul_le_mul (by omega) hhf (by omega) (by omega)
    have z1 := max0 e
    have z2 := max0 (-e)
    refine ⟨_, rfl, (e - f.low) * 2 ^ ((f.p : Int) - 1).toNat, _, rfl, rfl, .inl ⟨by rw [hp]; omega, by rw [hp]; omega⟩, _, rfl, (by show 3 ≤ sizeLine; decide), fun p hpn => ?_⟩
    refine hQ _ p (same_of_upd hpn) ?_
    have e9 : (some (HO.tup [V.int (x.num * 2 ^ (if -e > 0 then -e else 0).toNat), .int ((e - f.low) * 2 ^ ((f.p : Int) - 1).toNat * (x.den * 2 ^ (if e > 0 then e else 0).toNat)), .int (x.den * 2 ^ (if e > 0 then e else 0).toNat)])) = some (.tup [.int (posLine f x e).a, .int (posLine f x e).b, .int (posLine f x e).c]) := by
      rw [z1, z2, hp]; rfl
    exact upd_same.trans e9
end
end K45
/-! ## X1 -/
namespace K45
open PySem PySem.Spec PyProof.Rows L2
/-! ### match of a text with written texts -/
/-- does the pattern take the text -/
structure KPat (X : Cx) (p : Pattern) (t : Str → Bool) : Prop where
  run : ∀ (pins : List (Addr × Obj)) (s : Shared) (σ : L2.St) (H : Hp) (z : Str) (tk : Tok) (Q : Option (List (Str × Value)) → Shared → Prop), Inv X pins σ H s → (∀ s', Inv X pins σ H s' → Q (if t z = true then some [] else none) s') →
    wpAny (model X.prog X.w) X.A (matchPattern p X.env (.str z tk)) Q X.xe s
structure KPats (X : Cx) (ps : List Pattern) (t : Str → Bool) : Prop where
  run : ∀ (pins : List (Addr × Obj)) (s : Shared) (σ : L2.St) (H : Hp) (z : Str) (tk : Tok) (Q : Option (List (Str × Value)) → Shared → Prop), Inv X pins σ H s → (∀ s', Inv X pins σ H s' → Q (if t z = true then some [] else none) s') →
    wpAny (model X.prog X.w) X.A (matchFirst ps X.env (.str z tk)) Q X.xe s
structure KCases (X : Cx) (cs : List MatchCase) (t : Str → TS) : Prop where
  run : ∀ (pins : List (Addr × Obj)) (s : Shared) (σ : L2.St) (H : Hp) (z : Str) (tk : Tok) (first : Bool) (D : Ends), Inv X pins σ H s → t z D σ H → wpAny (model X.prog X.w) X.A (matchCases cs X.env (.str z tk) first) (SP X pins D) X.xe s
section
variable {X : Cx}
theorem kpat_str {x : Str} {j : Nat} {p1 p2 : Pos} : KPat X (.MatchValue (.Constant (.str x) j p1) p2) fun z => decide (z = x) := by
  refine ⟨fun pins s σ H z tk Q I h => ?_⟩
  refine wpAny_matchPattern_Value (thn ((pe_str (x := x) (j := j) (pos := p1)).run pins s σ H (fun v H1 => v = .str x ∧ H1 = H) I ⟨rfl, rfl⟩) fun u s1 ⟨v, H1, I1, r1, q1⟩ => ?_)
  obtain ⟨rfl, rfl⟩ := q1
  refine thn (op_eq (X := X) pins s1 σ H1 (.str z) (.str x) (.str z tk) u (fun c H2 => c = .bl (decide (V.str z = V.str x)) ∧ H2 = H1) I1 ⟨tk, rfl⟩ r1 ⟨rfl, rfl, rfl⟩) fun c s2 ⟨cv, H2, I2, r2, q2⟩ => ?_
  obtain ⟨rfl, rfl⟩ := q2
  cases r2
  refine wpAny_truthy_bool ?_
  have e : decide (V.str z = V.str x) = decide (z = x) := by
    by_cases hz : z = x
    · rw [decide_eq_true hz, decide_eq_true (by rw [hz])]
    · rw [decide_eq_false hz, decide_eq_false (fun q => hz (V.str.inj q))]
  have hq := h s2 I2
  rw [e]
  cases hd : decide (z = x) with
  | true => rw [hd] at hq; exact hq
  | false => rw [hd] at hq; exact hq
theorem kpats_nil : KPats X [] fun _ => false := ⟨fun pins s σ H z tk Q I h => wpAny_matchFirst_nil (h s I)⟩
theorem kpats_cons {p : Pattern} {ps : List Pattern} {t u : Str → Bool} (a : KPat X p t) (b : KPats X ps u) : KPats X (p :: ps) fun z => t z || u z := by
  refine ⟨fun pins s σ H z tk Q I h => ?_⟩
  refine wpAny_matchFirst_cons (a.run pins s σ H z tk _ I fun s1 I1 => ?_)
  cases hz : t z with
  | true =>
    have hq := h s1 I1
    rw [hz] at hq
    exact hq
  | false =>
    refine b.run pins s1 σ H z tk _ I1 fun s2 I2 => ?_
    have hq := h s2 I2
    rw [hz] at hq
    exact hq
theorem kpat_or {ps : List Pattern} {pos : Pos} {t : Str → Bool} (a : KPats X ps t) (hn : namesOfAll (ps.take 1) = [] := by rfl) : KPat X (.MatchOr ps pos) t := by
  refine ⟨fun pins s σ H z tk Q I h => ?_⟩
  refine wpAny_matchPattern_Or (a.run pins s σ H z tk _ I fun s1 I1 => ?_)
  have hq := h s1 I1
  cases hz : t z with
  | true =>
    rw [hz] at hq
    rw [if_pos rfl] at hq ⊢
    rw [hn]
    exact hq
  | false =>
    rw [hz] at hq
    exact hq
def tMNil : Str → TS := fun _ D σ H => D.nx σ H
def tMCons (t : Str → Bool) (tb : TS) (u : Str → TS) : Str → TS := fun z D σ H => if t z = true then tb D σ H else u z D σ H
theorem kcases_nil : KCases X [] tMNil := ⟨fun pins s σ H z tk first D I h => wpAny_matchCases_nil ⟨σ, H, I, h⟩⟩
theorem kcases_cons {p : Pattern} {body : List Stmt} {rest : List MatchCase} {t : Str → Bool} {tb : TS} {u : Str → TS} (a : KPat X p t) (b : PSs X body tb) (c : KCases X rest u) : KCases X (⟨p, none, body⟩ :: rest) (tMCons t tb u) := by
  refine ⟨fun pins s σ H z tk first D I h => ?_⟩
  refine wpAny_matchCases_cons (a.run pins s σ H z tk _ I fun s1 I1 => ?_)
  have h1 : if t z = true then tb D σ H else u z D σ H := h
  cases hz : t z with
  | true =>
    rw [hz] at h1
    exact wpAny_assignInOrder_none (b.run pins s1 σ H D I1 h1)
  | false =>
    rw [hz] at h1
    exact c.run pins s1 σ H z tk false D I1 h1
def tMatch (te : TE) (t : Str → TS) : TS := fun D σ H => te σ H fun v H1 => ∃ z, v = .str z ∧ t z D σ H1
theorem ps_match {e : Expr} {cs : List MatchCase} {pos : Pos} {te : TE} {t : Str → TS} (he : PE X e te) (hc : KCases X cs t) : PS X (.Match e cs pos) (tMatch te t) := by
  refine ⟨fun pins s σ H D I h => ?_⟩
  refine wpAny_Match (thn (he.run pins s σ H _ I h) fun v s1 ⟨x, H1, I1, r1, q1⟩ => ?_)
  obtain ⟨z, rfl, q⟩ := q1
  obtain ⟨tk, rfl⟩ := r1
  exact hc.run pins s1 σ H1 z tk true D I1 q
end
end K45
/-! ## W4 -/
namespace K45
open PySem PySem.Spec PyProof.Rows L2
def wayS : Way → Str
  | .even => "even"
  | .away => "away"
  | .zero => "zero"
  | .out => "out"
  | .odd => "odd"
/-- a stair on the heap -/
def StAt (H : Hp) (a : Addr) (st : List Line) : Prop := ∃ as : List Addr, H a = some (.tup (as.map V.ref)) ∧ Paired (LnAt H) as st
theorem StAt.same {H H' : Hp} {a : Addr} {st : List Line} (s : Same H H') (h : StAt H a st) : StAt H' a st := by
  obtain ⟨as, h1, h2⟩ := h
  exact ⟨as, s _ _ h1, Paired.mapP h2 fun x l h => s _ _ h⟩
theorem mT {t : Str → Bool} {tb : TS} {u : Str → TS} {z : Str} {D : Ends} {σ : L2.St} {H : Hp} (h : t z = true) (q : tb D σ H) : tMCons t tb u z D σ H := by
  unfold tMCons
  rw [if_pos h]; exact q
theorem mF {t : Str → Bool} {tb : TS} {u : Str → TS} {z : Str} {D : Ends} {σ : L2.St} {H : Hp} (h : t z = false) (q : u z D σ H) : tMCons t tb u z D σ H := by
  unfold tMCons
  rw [h, if_neg Bool.false_ne_true]; exact q
/-! ### promises -/
def spKind (k : Kind) : Sp := fun vs H Q _ => ∃ (w : Way) (b : Addr) (l : Line), vs = [.str (wayS w), .ref b] ∧ LnAt H b l ∧ ∀ H' p, Same H H' → StAt H' p (kindStair k w l) → Q (.ref p) H'
def spBeyond : Sp := fun vs H Q _ => ∃ (a : Addr) (f : Fo) (w : Way), vs = [.ref a, .str (wayS w)] ∧ FoAt H a f ∧ FoB f ∧ Q (.int (beyond w f.many)) H
section
variable {P : Program} {w : World} {K : PySem.W.Frag} {mg : Str → Option Value} {base : Heap}
theorem fin1 {H : Hp} {a b c : Int} {p q : Addr} (hp : H p = none) (hq : (upd H p (.tup [.int a, .int b, .int c])) q = none) : Same H (upd (upd H p (.tup [.int a, .int b, .int c])) q (.tup [.ref p])) ∧ StAt (upd (upd H p (.tup [.int a, .int b, .int c])) q (.tup [.ref p])) q [⟨a, b, c⟩] := by
  have s2 := same_of_upd (o := .tup [.ref p]) hq
  exact ⟨(same_of_upd hp).trans s2, [p], upd_same, .cons (s2 _ _ upd_same) .nil⟩
theorem fin2 {H : Hp} {a b c a' b' c' : Int} {p p' q : Addr} (hp : H p = none) (hp' : (upd H p (.tup [.int a, .int b, .int c])) p' = none) (hq : (upd (upd H p (.tup [.int a, .int b, .int c])) p' (.tup [.int a', .int b', .int c'])) q = none) :
    Same H (upd (upd (upd H p (.tup [.int a, .int b, .int c])) p' (.tup [.int a', .int b', .int c'])) q (.tup [.ref p, .ref p'])) ∧
    StAt (upd (upd (upd H p (.tup [.int a, .int b, .int c])) p' (.tup [.int a', .int b', .int c'])) q (.tup [.ref p, .ref p'])) q [⟨a, b, c⟩, ⟨a', b', c'⟩] := by
  have s1 := same_of_upd (o := .tup [.int a', .int b', .int c']) hp'
  have s2 := same_of_upd (o := .tup [.ref p, .ref p']) hq
  exact ⟨((same_of_upd hp).trans s1).trans s2, [p, p'], upd_same, .cons (s2 _ _ (s1 _ _ upd_same)) (.cons (s2 _ _ upd_same) .nil)⟩
theorem sc_read_stair : FnScope ["way", "line", "a", "b", "c"] ["way", "line"] (defScope s_read_stair) := ⟨rfl, rfl, rfl, by decide +kernel, rfl, by decide +kernel, by decide +kernel⟩
theorem cl_read_stair (D : DefAt K mg "read_stair" s_read_stair) : Cl P w K mg base CX0 1 "read_stair" (spKind .read) := by
  refine cl_of D (fun _ _ _ _ _ _ us hl => match us, hl with | [_, _], _ => rfl) sc_read_stair (fun vs H Q E h => ?_) (fun f cdv A outer s H vs Q E hr h => ?_)
  · obtain ⟨wy, b, l, rfl, _⟩ := h
    rfl
  · obtain ⟨wy, b, l, rfl, hl, hQ⟩ := h
    refine ⟨_, PSs.nox (pss_cons (ps_asg (pv 1) (pg_tup rfl (pgs_cons (pg_name (i := 2) sc_read_stair.nd rfl (Or.inl rfl)) (pgs_cons (pg_name (i := 3) sc_read_stair.nd rfl (Or.inl rfl)) (pgs_cons (pg_name (i := 4) sc_read_stair.nd rfl (Or.inl rfl)) pgs_nil)))))
      (pss_cons (ps_match (pv 0) (kcases_cons kpat_str (pss_one (ps_ret (pe_tup (pa_cons (pe_tup (pa_cons (pe_op op_mul pe_int (pv 2)) (pa_cons (pe_op op_add (pe_op op_mul pe_int (pv 3)) (pv 4)) (pa_cons (pe_op op_mul pe_int (pv 4)) pa_nil)))) (pa_cons (pe_tup (pa_cons (pe_op op_mul pe_int (pv 2)) (pa_cons (pe_op op_sub (pe_op op_add (pe_op op_mul pe_int (pv 3)) (pe_op op_mul pe_int (pv 4))) pe_int) (pa_cons (pe_op op_mul pe_int (pv 4)) pa_nil)))) pa_nil)))))
        (kcases_cons kpat_str (pss_one (ps_ret (pe_tup (pa_cons (pe_tup (pa_cons (pe_op op_mul pe_int (pv 2)) (pa_cons (pe_op op_add (pe_op op_mul pe_int (pv 3)) (pv 4)) (pa_cons (pe_op op_mul pe_int (pv 4)) pa_nil)))) pa_nil))))
        (kcases_cons kpat_str (pss_one (ps_ret (pe_tup (pa_cons (pv 1) pa_nil))))
        (kcases_cons kpat_str (pss_one (ps_ret (pe_tup (pa_cons (pe_tup (pa_cons (pv 2) (pa_cons (pe_op op_sub (pe_op op_add (pv 3) (pv 4)) pe_int) (pa_cons (pv 4) pa_nil)))) pa_nil))))
        kcases_nil)))))
      (pss_one (ps_ret (pe_tup (pa_cons (pe_tup (pa_cons (pv 2) (pa_cons (pv 3) (pa_cons (pe_op op_mul pe_int (pv 4)) pa_nil)))) (pa_cons (pe_tup (pa_cons (pv 2) (pa_cons (pe_op op_sub (pe_op op_add (pv 3) (pe_op op_mul pe_int (pv 4))) pe_int) (pa_cons (pe_op op_mul pe_int (pv 4)) pa_nil)))) pa_nil))))))), ?_⟩
    refine ⟨_, rfl, b, _, rfl, SqT.of hl, rfl, _, _, rfl, _, _, rfl, _, _, rfl, rfl, ?_⟩
    refine ⟨_, rfl, wayS wy, rfl, ?_⟩
    cases wy with
    | even =>
      refine mT (by decide) ⟨_, rfl, _, _, rfl, rfl, .inl ⟨by decide, by decide⟩, _, rfl, _, _, rfl, rfl, .inl ⟨by decide, by decide⟩, _, rfl, _, _, rfl, rfl, _, rfl, _, _, rfl, rfl, .inl ⟨by decide, by decide⟩, (by show 3 ≤ sizeLine; decide), fun p hp => ?_⟩
      refine ⟨_, rfl, _, _, rfl, rfl, .inl ⟨by decide, by decide⟩, _, rfl, _, _, rfl, rfl, .inl ⟨by decide, by decide⟩, _, rfl, _, _, rfl, rfl, .inl ⟨by decide, by decide⟩, _, _, rfl, rfl, _, _, rfl, rfl, _, rfl, _, _, rfl, rfl, .inl ⟨by decide, by decide⟩, (by show 3 ≤ sizeLine; decide), fun p' hp' => ?_⟩
      refine ⟨(by show 2 ≤ sizeLine; decide), fun q hq => ?_⟩
      obtain ⟨z1, z2⟩ := fin2 hp hp' hq
      exact hQ _ q z1 z2
    | away =>
      refine mF (by decide) (mT (by decide) ⟨_, rfl, _, _, rfl, rfl, .inl ⟨by decide, by decide⟩, _, rfl, _, _, rfl, rfl, .inl ⟨by decide, by decide⟩, _, rfl, _, _, rfl, rfl, _, rfl, _, _, rfl, rfl, .inl ⟨by decide, by decide⟩, (by show 3 ≤ sizeLine; decide), fun p hp => ?_⟩)
      refine ⟨(by show 1 ≤ sizeLine; decide), fun q hq => ?_⟩
      obtain ⟨z1, z2⟩ := fin1 hp hq
      exact hQ _ q z1 z2
    | zero =>
      refine mF (by decide) (mF (by decide) (mT (by decide) ⟨_, rfl, (by show 1 ≤ sizeLine; decide), fun q hq => ?_⟩))
      exact hQ _ q (same_of_upd hq) ⟨[b], upd_same, .cons (same_of_upd hq _ _ hl) .nil⟩
    | out =>
      refine mF (by decide) (mF (by decide) (mF (by decide) (mT (by decide) ⟨_, rfl, _, rfl, _, rfl, _, _, rfl, rfl, _, _, rfl, rfl, _, rfl, (by show 3 ≤ sizeLine; decide), fun p hp => ?_⟩)))
      refine ⟨(by show 1 ≤ sizeLine; decide), fun q hq => ?_⟩
      obtain ⟨z1, z2⟩ := fin1 hp hq
      exact hQ _ q z1 z2
    | odd =>
      refine mF (by decide) (mF (by decide) (mF (by decide) (mF (by decide) ?_)))
      refine ⟨_, rfl, _, rfl, _, rfl, _, _, rfl, rfl, .inl ⟨by decide, by decide⟩, (by show 3 ≤ sizeLine; decide), fun p hp => ?_⟩
      refine ⟨_, rfl, _, rfl, _, rfl, _, _, rfl, rfl, .inl ⟨by decide, by decide⟩, _, _, rfl, rfl, _, _, rfl, rfl, _, rfl, _, _, rfl, rfl, .inl ⟨by decide, by decide⟩, (by show 3 ≤ sizeLine; decide), fun p' hp' => ?_⟩
      refine ⟨(by show 2 ≤ sizeLine; decide), fun q hq => ?_⟩
      obtain ⟨z1, z2⟩ := fin2 hp hp' hq
      exact hQ _ q z1 z2
theorem sc_up_stair : FnScope ["way", "line", "a", "b", "c"] ["way", "line"] (defScope s_up_stair) := ⟨rfl, rfl, rfl, by decide +kernel, rfl, by decide +kernel, by decide +kernel⟩
theorem cl_up_stair (D : DefAt K mg "up_stair" s_up_stair) : Cl P w K mg base CX0 1 "up_stair" (spKind .up) := by
  refine cl_of D (fun _ _ _ _ _ _ us hl => match us, hl with | [_, _], _ => rfl) sc_up_stair (fun vs H Q E h => ?_) (fun f cdv A outer s H vs Q E hr h => ?_)
  · obtain ⟨wy, b, l, rfl, _⟩ := h
    rfl
  · obtain ⟨wy, b, l, rfl, hl, hQ⟩ := h
    refine ⟨_, PSs.nox (pss_cons (ps_asg (pv 1) (pg_tup rfl (pgs_cons (pg_name (i := 2) sc_up_stair.nd rfl (Or.inl rfl)) (pgs_cons (pg_name (i := 3) sc_up_stair.nd rfl (Or.inl rfl)) (pgs_cons (pg_name (i := 4) sc_up_stair.nd rfl (Or.inl rfl)) pgs_nil)))))
      (pss_cons (ps_match (pv 0) (kcases_cons (kpat_or (kpats_cons kpat_str (kpats_cons kpat_str kpats_nil))) (pss_one (ps_ret (pe_tup (pa_cons (pe_tup (pa_cons (pe_op op_mul pe_int (pv 2)) (pa_cons (pe_op op_add (pe_op op_mul pe_int (pv 3)) (pv 4)) (pa_cons (pe_op op_mul pe_int (pv 4)) pa_nil)))) pa_nil))))
        (kcases_cons kpat_str (pss_one (ps_ret (pe_tup (pa_cons (pv 1) pa_nil))))
        (kcases_cons kpat_str (pss_one (ps_ret (pe_tup (pa_cons (pe_tup (pa_cons (pv 2) (pa_cons (pe_op op_add (pv 3) (pv 4)) (pa_cons (pv 4) pa_nil)))) pa_nil))))
        kcases_nil))))
      (pss_one (ps_ret (pe_tup (pa_cons (pe_tup (pa_cons (pv 2) (pa_cons (pv 3) (pa_cons (pe_op op_mul pe_int (pv 4)) pa_nil)))) (pa_cons (pe_tup (pa_cons (pv 2) (pa_cons (pe_op op_add (pv 3) (pe_op op_mul pe_int (pv 4))) (pa_cons (pe_op op_mul pe_int (pv 4)) pa_nil)))) pa_nil))))))), ?_⟩
    refine ⟨_, rfl, b, _, rfl, SqT.of hl, rfl, _, _, rfl, _, _, rfl, _, _, rfl, rfl, ?_⟩
    refine ⟨_, rfl, wayS wy, rfl, ?_⟩
    cases wy with
    | even =>
      refine mT (by decide) ⟨_, rfl, _, _, rfl, rfl, .inl ⟨by decide, by decide⟩, _, rfl, _, _, rfl, rfl, .inl ⟨by decide, by decide⟩, _, rfl, _, _, rfl, rfl, _, rfl, _, _, rfl, rfl, .inl ⟨by decide, by decide⟩, (by show 3 ≤ sizeLine; decide), fun p hp => ?_⟩
      refine ⟨(by show 1 ≤ sizeLine; decide), fun q hq => ?_⟩
      obtain ⟨z1, z2⟩ := fin1 hp hq
      exact hQ _ q z1 z2
    | away =>
      refine mT (by decide) ⟨_, rfl, _, _, rfl, rfl, .inl ⟨by decide, by decide⟩, _, rfl, _, _, rfl, rfl, .inl ⟨by decide, by decide⟩, _, rfl, _, _, rfl, rfl, _, rfl, _, _, rfl, rfl, .inl ⟨by decide, by decide⟩, (by show 3 ≤ sizeLine; decide), fun p hp => ?_⟩
      refine ⟨(by show 1 ≤ sizeLine; decide), fun q hq => ?_⟩
      obtain ⟨z1, z2⟩ := fin1 hp hq
      exact hQ _ q z1 z2
    | zero =>
      refine mF (by decide) (mT (by decide) ⟨_, rfl, (by show 1 ≤ sizeLine; decide), fun q hq => ?_⟩)
      exact hQ _ q (same_of_upd hq) ⟨[b], upd_same, .cons (same_of_upd hq _ _ hl) .nil⟩
    | out =>
      refine mF (by decide) (mF (by decide) (mT (by decide) ⟨_, rfl, _, rfl, _, rfl, _, _, rfl, rfl, _, rfl, (by show 3 ≤ sizeLine; decide), fun p hp => ?_⟩))
      refine ⟨(by show 1 ≤ sizeLine; decide), fun q hq => ?_⟩
      obtain ⟨z1, z2⟩ := fin1 hp hq
      exact hQ _ q z1 z2
    | odd =>
      refine mF (by decide) (mF (by decide) (mF (by decide) ?_))
      refine ⟨_, rfl, _, rfl, _, rfl, _, _, rfl, rfl, .inl ⟨by decide, by decide⟩, (by show 3 ≤ sizeLine; decide), fun p hp => ?_⟩
      refine ⟨_, rfl, _, rfl, _, rfl, _, _, rfl, rfl, .inl ⟨by decide, by decide⟩, _, _, rfl, rfl, _, rfl, _, _, rfl, rfl, .inl ⟨by decide, by decide⟩, (by show 3 ≤ sizeLine; decide), fun p' hp' => ?_⟩
      refine ⟨(by show 2 ≤ sizeLine; decide), fun q hq => ?_⟩
      obtain ⟨z1, z2⟩ := fin2 hp hp' hq
      exact hQ _ q z1 z2
theorem sc_half_stair : FnScope ["way", "line"] ["way", "line"] (defScope s_half_stair) := ⟨rfl, rfl, rfl, by decide +kernel, rfl, by decide +kernel, by decide +kernel⟩
theorem cl_half_stair (D : DefAt K mg "half_stair" s_half_stair) : Cl P w K mg base CX0 1 "half_stair" (spKind .half) := by
  refine cl_of D (fun _ _ _ _ _ _ us hl => match us, hl with | [_, _], _ => rfl) sc_half_stair (fun vs H Q E h => ?_) (fun f cdv A outer s H vs Q E hr h => ?_)
  · obtain ⟨wy, b, l, rfl, _⟩ := h
    rfl
  · obtain ⟨wy, b, l, rfl, hl, hQ⟩ := h
    refine ⟨_, PSs.nox (pss_one (ps_ret (pe_tup (pa_cons (pe_tup (pa_cons (pe_ix ix_tup (pv 1) pe_int (fun _ _ => rfl)) (pa_cons (pe_ix ix_tup (pv 1) pe_int (fun _ _ => rfl)) (pa_cons (pe_op op_mul pe_int (pe_ix ix_tup (pv 1) pe_int (fun _ _ => rfl))) pa_nil)))) pa_nil)))), ?_⟩
    refine ⟨_, rfl, b, _, 0, .int l.a, rfl, rfl, SqT.of hl, rfl, _, rfl, b, _, 1, .int l.b, rfl, rfl, SqT.of hl, rfl, _, rfl, b, _, 2, .int l.c, rfl, rfl, SqT.of hl, rfl, _, _, rfl, rfl, .inl ⟨by decide, by decide⟩, (by show 3 ≤ sizeLine; decide), fun p hp => ?_⟩
    refine ⟨(by show 1 ≤ sizeLine; decide), fun q hq => ?_⟩
    obtain ⟨z1, z2⟩ := fin1 hp hq
    exact hQ _ q z1 z2
theorem sc_below_half_stair : FnScope ["way", "line"] ["way", "line"] (defScope s_below_half_stair) := ⟨rfl, rfl, rfl, by decide +kernel, rfl, by decide +kernel, by decide +kernel⟩
theorem cl_below_half_stair (D : DefAt K mg "below_half_stair" s_below_half_stair) : Cl P w K mg base CX0 1 "below_half_stair" (spKind .below) := by
  refine cl_of D (fun _ _ _ _ _ _ us hl => match us, hl with | [_, _], _ => rfl) sc_below_half_stair (fun vs H Q E h => ?_) (fun f cdv A outer s H vs Q E hr h => ?_)
  · obtain ⟨wy, b, l, rfl, _⟩ := h
    rfl
  · obtain ⟨wy, b, l, rfl, hl, hQ⟩ := h
    refine ⟨_, PSs.nox (pss_one (ps_ret (pe_tup (pa_cons (pe_tup (pa_cons (pe_ix ix_tup (pv 1) pe_int (fun _ _ => rfl)) (pa_cons (pe_op op_sub (pe_ix ix_tup (pv 1) pe_int (fun _ _ => rfl)) pe_int) (pa_cons (pe_op op_mul pe_int (pe_ix ix_tup (pv 1) pe_int (fun _ _ => rfl))) pa_nil)))) pa_nil)))), ?_⟩
    refine ⟨_, rfl, b, _, 0, .int l.a, rfl, rfl, SqT.of hl, rfl, _, rfl, b, _, 1, .int l.b, rfl, rfl, SqT.of hl, rfl, _, _, rfl, rfl, _, rfl, b, _, 2, .int l.c, rfl, rfl, SqT.of hl, rfl, _, _, rfl, rfl, .inl ⟨by decide, by decide⟩, (by show 3 ≤ sizeLine; decide), fun p hp => ?_⟩
    refine ⟨(by show 1 ≤ sizeLine; decide), fun q hq => ?_⟩
    obtain ⟨z1, z2⟩ := fin1 hp hq
    exact hQ _ q z1 z2
theorem sc_beyond_code : FnScope ["form", "way", "many"] ["form", "way"] (defScope s_beyond_code) := ⟨rfl, rfl, rfl, by decide +kernel, rfl, by decide +kernel, by decide +kernel⟩
theorem cl_beyond_code (D : DefAt K mg "beyond_code" s_beyond_code) (c_count_of : Cl P w K mg base CX0 2 "count_of" spCount) (g_ZERO : ∃ t, mg "ZERO" = some (.str "zero" t)) (g_ODD : ∃ t, mg "ODD" = some (.str "odd" t)) : Cl P w K mg base CX0 3 "beyond_code" spBeyond := by
  refine cl_of D (fun _ _ _ _ _ _ us hl => match us, hl with | [_, _], _ => rfl) sc_beyond_code (fun vs H Q E h => ?_) (fun f cdv A outer s H vs Q E hr h => ?_)
  · obtain ⟨a, f, wy, rfl, _⟩ := h
    rfl
  · obtain ⟨a, f, wy, rfl, hf, hb, hQ⟩ := h
    obtain ⟨tz, g_ZERO⟩ := g_ZERO
    obtain ⟨to, g_ODD⟩ := g_ODD
    refine ⟨_, PSs.nox (pss_cons (ps_set (i := 2) sc_beyond_code.nd rfl (Or.inl rfl) (pe_cl c_count_of hr (by decide) pass0 (pa_cons (pv 0) pa_nil)))
      (pss_cons (ps_if (pt_cmpR op_eq (pv 1) (pe_glob (v := .str "zero") (by rfl) g_ZERO ⟨_, rfl⟩) (nomark _))
        (pss_one (ps_ret (pe_op op_sub (pv 2) pe_int)))
        pss_nil)
      (pss_one (ps_ret (pe_ifExp (pt_cmpR op_eq (pv 1) (pe_glob (v := .str "odd") (by rfl) g_ODD ⟨_, rfl⟩) (nomark _)) (pe_op op_add (pe_op op_sub (pv 2) pe_int) (pe_op op_mod (pv 2) pe_int)) (pv 2)))))), ?_⟩
    refine ⟨_, rfl, a, f, rfl, hf, hb, ?_⟩
    refine ⟨_, rfl, rfl, _, rfl, ?_⟩
    cases wy with
    | zero =>
      rw [decide_eq_true (show (V.str (wayS .zero) = V.str "zero") from rfl)]
      exact iteT ⟨_, rfl, _, _, rfl, rfl, hQ⟩
    | odd =>
      rw [decide_eq_false (show ¬ (V.str (wayS .odd) = V.str "zero") by decide)]
      refine iteF ⟨_, rfl, rfl, _, rfl, ?_⟩
      rw [decide_eq_true (show (V.str (wayS .odd) = V.str "odd") from rfl)]
      exact iteT ⟨_, rfl, _, _, rfl, rfl, _, rfl, _, _, rfl, rfl, (by show (0 : Int) < 2; decide), _, _, rfl, rfl, hQ⟩
    | even =>
      rw [decide_eq_false (show ¬ (V.str (wayS .even) = V.str "zero") by decide)]
      refine iteF ⟨_, rfl, rfl, _, rfl, ?_⟩
      rw [decide_eq_false (show ¬ (V.str (wayS .even) = V.str "odd") by decide)]
      exact iteF ⟨_, rfl, hQ⟩
    | away =>
      rw [decide_eq_false (show ¬ (V.str (wayS .away) = V.str "zero") by decide)]
      refine iteF ⟨_, rfl, rfl, _, rfl, ?_⟩
      rw [decide_eq_false (show ¬ (V.str (wayS .away) = V.str "odd") by decide)]
      exact iteF ⟨_, rfl, hQ⟩
    | out =>
      rw [decide_eq_false (show ¬ (V.str (wayS .out) = V.str "zero") by decide)]
      refine iteF ⟨_, rfl, rfl, _, rfl, ?_⟩
      rw [decide_eq_false (show ¬ (V.str (wayS .out) = V.str "odd") by decide)]
      exact iteF ⟨_, rfl, hQ⟩
end
end K45
/-! ## X2 -/
namespace K45
open PySem PySem.Spec PyProof.Rows L2
open PySem.SeqAt (RcAt EqAt)
/-! ### f in (g, h) for defs -/
theorem slot_function_eq : Slot "function" (cmpInfo .Eq).2.1 "object.__eq__" :=
  .of (owner := "object") (n := "__eq__") (by rw [typeLookup_type, builtinLookup_eq_fast]; kernel_rfl) (by decide +kernel) (by decide +kernel) (by decide +kernel)
    (by first | exact .inl (by decide +kernel) | exact .inr (by decide +kernel)) (by rw [isSubtype_type]; kernel_rfl)
theorem slot_function_eq_refl : Slot "function" (cmpInfo .Eq).2.2 "object.__eq__" :=
  .of (owner := "object") (n := "__eq__") (by rw [typeLookup_type, builtinLookup_eq_fast]; kernel_rfl) (by decide +kernel) (by decide +kernel) (by decide +kernel)
    (by first | exact .inl (by decide +kernel) | exact .inr (by decide +kernel)) (by rw [isSubtype_type]; kernel_rfl)
section
variable {A : Around} {s : Shared} {f g : Addr} {of og : Obj}
theorem rc_fns (hf : s.heap.get? f = some of) (cf : of.cls = .type "function") (hg : s.heap.get? g = some og) (cg : og.cls = .type "function") (hne : f ≠ g) (hu : A.units < cLine) : RcAt A s (.ref f) (.ref g) false := fun prog w E Q h => by
  have ha : s.TypeIs (.ref f) "function" := ⟨_, hf, cf⟩
  have hb : s.TypeIs (.ref g) "function" := ⟨_, hg, cg⟩
  have h1 := slot_function_eq
  have h2 := slot_function_eq_refl
  have nf : of.cls ≠ .type "tuple" := by rw [cf]; decide
  have ng : og.cls ≠ .type "tuple" := by rw [cg]; decide
  rcases hi : cmpInfo CmpOp.Eq with ⟨sym, ff, r⟩
  rw [hi] at h1 h2
  simp only [richCompare, hi, ha.oneThing_none]
  try with_reducible refine wpAny_holding ?_
  refine wpAny_bind (wpAny_cRoomFor_or (.inr hu) ?_)
  refine wpAny_bind (wpAny_typeOf ha (wpAny_bind (wpAny_typeOf hb ?_)))
  simp only [bne_self_eq_false, Bool.false_eq_true, if_false, pure_bind, Bool.not_false, if_true]
  refine wpAny_bind (m := tryCompare (.ref f) _ (.ref g)) (wpAny_tryCompare_declines ha h1 (wpAny_call_entry h1 ha F.entry_object_eq (objEq_entry_other hne hf hg nf ⟨_, rfl, rfl, ?_⟩) (F.args_object_eq_2 _ _)))
  refine wpAny_bind (m := tryCompare (.ref g) _ (.ref f)) (wpAny_tryCompare_declines hb h2 (wpAny_call_entry h2 hb F.entry_object_eq (objEq_entry_other (Ne.symm hne) hg hf ng ⟨_, rfl, rfl, ?_⟩) (F.args_object_eq_2 _ _)))
  exact wpAny_bind (wpAny_rule (wpAny_bind (wpAny_isSame_ref_other hne hf hg nf (wpAny_pure h))))
theorem eq_fns (hf : s.heap.get? f = some of) (cf : of.cls = .type "function") (hg : s.heap.get? g = some og) (cg : og.cls = .type "function") (hu : A.units < cLine) : EqAt A s (.ref f) (.ref g) (decide (f = g)) := by
  by_cases e : f = g
  · subst e
    rw [decide_eq_true rfl]
    exact EqAt.same _
  · rw [decide_eq_false e]
    exact EqAt.of_refs e (rc_fns hf cf hg cg e hu)
end
/-- a def of the written part -/
def FnK (K : PySem.W.Frag) (f : Addr) : Prop := PySem.W.isFn K (.ref f) = true
theorem FnK.obj {K : PySem.W.Frag} {f : Addr} (h : FnK K f) : ∃ o, K.lookup f = some o ∧ o.cls = .type "function" := by
  have h1 : (PySem.W.typeIn K (.ref f) == some (.type "function")) = true := h
  have h2 : PySem.W.typeIn K (.ref f) = some (.type "function") := eq_of_beq h1
  obtain ⟨o, ho, e⟩ := Option.map_eq_some_iff.mp (show (K.lookup f).map (·.cls) = some (.type "function") from h2)
  exact ⟨o, ho, e⟩
def rInFn (K : PySem.W.Frag) : R2 := fun x y H Q => ∃ (f p : Addr) (as : List Addr), x = .ref f ∧ y = .ref p ∧ SqT K H p (as.map V.ref) ∧ FnK K f ∧ (∀ g ∈ as, FnK K g) ∧ Q (.bl (decide (f ∈ as))) H
theorem any_refs (f : Addr) : ∀ {as : List Addr} {us : List Value}, Vals (as.map V.ref) us → us.any (fun u => match u with | .ref g => decide (g = f) | _ => false) = decide (f ∈ as)
  | [], _, r => by
    cases r
    simp
  | a :: as, _, r => by
    cases r with
    | cons ra rr =>
      cases (show _ = Value.ref a from ra)
      rw [List.any_cons, any_refs f rr]
      by_cases e : a = f
      · subst e; simp
      · have e2 : f ≠ a := fun z => e z.symm
        simp [e, e2]
theorem op_in_fn {X : Cx} (hu : X.A.units + 1 < cLine) : OpR X (compareOp .In) (rInFn X.K) := by
  intro pins s σ H x y v u Q I rx ry h
  obtain ⟨f, p, as, rfl, rfl, hq, hf, hg, q⟩ := h
  cases rx
  cases ry
  obtain ⟨its, r, pl, hz⟩ := I.tuple hq
  obtain ⟨of, kf, cf⟩ := hf.obj
  refine SeqAt.in_tupleAt (fun u => match u with | .ref g => decide (g = f) | _ => false) pl (fun w hw => ?_) ⟨.bl _, H, I, rfl, ?_⟩
  · have hw : w ∈ its := by simpa using hw
    obtain ⟨i, hi, e⟩ := List.mem_iff_getElem.mp hw
    have hl := r.length
    rw [List.length_map] at hl
    obtain ⟨u', hu', ru⟩ := r.get (i := i) (x := V.ref (as[i]'(by omega))) (by rw [List.getElem?_map, List.getElem?_eq_getElem (by omega)]; rfl)
    rw [List.getElem?_eq_getElem hi] at hu'
    have eu : w = .ref (as[i]'(by omega)) := by
      cases (show u' = Value.ref _ from ru)
      rw [← e]; exact Option.some.inj hu'
    subst eu
    obtain ⟨og, kg, cg⟩ := (hg _ (List.getElem_mem (by omega : i < as.length))).obj
    exact eq_fns (I.kIn _ _ kg) cg (I.kIn _ _ kf) cf (by show X.A.units + 1 < cLine; exact hu)
  · have e := any_refs f r
    rw [show its.toArray.any (fun u => match u with | .ref g => decide (g = f) | _ => false) = its.any (fun u => match u with | .ref g => decide (g = f) | _ => false) by simp, e]
    exact q
end K45
/-! ## W5 -/
namespace K45
open PySem PySem.Spec PyProof.Rows L2
def kindN : Kind → Str
  | .read => "read_stair"
  | .up => "up_stair"
  | .half => "half_stair"
  | .below => "below_half_stair"
structure KindsAt (P : Program) (w : World) (K : PySem.W.Frag) (mg : Str → Option Value) (base : Heap) : Prop where
  cl : ∀ k, Cl P w K mg base CX0 1 (kindN k) (spKind k)
  fn : ∀ k f, mg (kindN k) = some (.ref f) → FnK K f
  ne : ∀ k k' f, mg (kindN k) = some (.ref f) → mg (kindN k') = some (.ref f) → k = k'
def spStairOn (mg : Str → Option Value) : Sp := fun vs H Q _ => ∃ (kf a b : Addr) (k : Kind) (f : Fo) (w : Way) (x : Sl) (e : Int), vs = [.ref kf, .ref a, .str (wayS w), .ref b, .int e] ∧ mg (kindN k) = some (.ref kf) ∧ FoAt H a f ∧ FoB f ∧ SlAt H b x ∧ SlB x ∧ f.low ≤ e ∧ e ≤ f.high + 1 ∧
  ∀ H' p, Same H H' → StAt H' p (stairOn k f w x e) → Q (.ref p) H'
section
variable {P : Program} {w : World} {K : PySem.W.Frag} {mg : Str → Option Value} {base : Heap}
theorem sc_stair_on : FnScope ["kind", "form", "way", "slope", "exponent", "code"] ["kind", "form", "way", "slope", "exponent"] (defScope s_stair_on) := ⟨rfl, rfl, rfl, by decide +kernel, rfl, by decide +kernel, by decide +kernel⟩
theorem cl_stair_on (D : DefAt K mg "stair_on" s_stair_on) (KA : KindsAt P w K mg base) (c_position_line : Cl P w K mg base CX0 1 "position_line" spPosL) (c_beyond_code : Cl P w K mg base CX0 3 "beyond_code" spBeyond) :
    Cl P w K mg base CX0 4 "stair_on" (spStairOn mg) := by
  refine cl_of D (fun _ _ _ _ _ _ us hl => match us, hl with | [_, _, _, _, _], _ => rfl) sc_stair_on (fun vs H Q E h => ?_) (fun f cdv A outer s H vs Q E hr h => ?_)
  · obtain ⟨kf, a, b, k, f, wy, x, e, rfl, _⟩ := h
    rfl
  · obtain ⟨kf, a, b, k, f, wy, x, e, rfl, hk, hf, hb, hx, bx, e0, e1, hQ⟩ := h
    obtain ⟨kf', fd, ps, F, hm, kp, bd⟩ := (KA.cl k).ex
    obtain rfl : kf' = kf := by
      rw [hk] at hm
      exact (Value.ref.inj (Option.some.inj hm)).symm
    obtain ⟨fa_half_stair, _, _, _, g_half_stair, _, _⟩ := (KA.cl .half).ex
    obtain ⟨fa_below_half_stair, _, _, _, g_below_half_stair, _, _⟩ := (KA.cl .below).ex
    refine ⟨_, PSs.nox (pss_cons (ps_if (pt_cmpR op_le (pv 4) (pe_ix ix_tup (pv 1) pe_int (fun _ _ => rfl)) (nomark _))
        (pss_one (ps_ret (pe_callL (i := 0) (dvs := []) F (hr.mono (by decide)) rfl (Or.inl rfl) kp bd .nil pass0 (pa_cons (pv 2) (pa_cons (pe_cl c_position_line hr (by decide) pass0 (pa_cons (pv 1) (pa_cons (pv 3) (pa_cons (pv 4) pa_nil)))) pa_nil)))))
        pss_nil)
      (pss_cons (ps_set (i := 5) sc_stair_on.nd rfl (Or.inl rfl) (pe_cl c_beyond_code hr (by decide) pass0 (pa_cons (pv 1) (pa_cons (pv 2) pa_nil))))
      (pss_one (ps_ret (pe_tup (pa_cons (pe_tup (pa_cons pe_int (pa_cons (pe_ifExp (pt_cmpR (op_in_fn (hu_of hr)) (pv 0) (pe_tup (pa_cons (pe_glob (v := .ref fa_half_stair) (by rfl) g_half_stair rfl) (pa_cons (pe_glob (v := .ref fa_below_half_stair) (by rfl) g_below_half_stair rfl) pa_nil))) (by rfl)) (pe_op op_fdiv (pv 5) pe_int) (pv 5)) (pa_cons pe_int pa_nil)))) pa_nil)))))), ?_⟩
    refine ⟨_, rfl, _, rfl, a, _, 2, .int f.high, rfl, rfl, SqT.of hf, rfl, _, _, rfl, rfl, _, rfl, ?_⟩
    by_cases he : e ≤ f.high
    · rw [decide_eq_true he]
      refine iteT ⟨rfl, _, rfl, _, rfl, _, rfl, _, rfl, a, b, f, x, e, rfl, hf, hb, hx, bx, e0, e1, fun H1 p s1 hp => ?_⟩
      refine ⟨wy, p, _, rfl, hp, fun H2 q s2 hq => hQ H2 q (s1.trans s2) ?_⟩
      unfold stairOn
      rw [if_pos he]
      exact hq
    · rw [decide_eq_false he]
      refine iteF ⟨_, rfl, _, rfl, a, f, wy, rfl, hf, hb, ?_⟩
      refine ⟨_, rfl, (by show 2 ≤ sizeLine; decide), fun t ht => ?_⟩
      have s1 := same_of_upd (o := .tup [V.ref fa_half_stair, V.ref fa_below_half_stair]) ht
      refine ⟨kf', t, [fa_half_stair, fa_below_half_stair], rfl, rfl, SqT.of upd_same, KA.fn _ _ hk, fun g hg => ?_, _, rfl, ?_⟩
      · rcases List.mem_cons.mp hg with rfl | hg
        · exact KA.fn .half _ g_half_stair
        · rw [List.mem_singleton.mp hg]
          exact KA.fn .below _ g_below_half_stair
      have es : stairOn k f wy x e = [⟨0, beyondK k wy f.many, 1⟩] := by
        unfold stairOn
        rw [if_neg he]
      have fin : ∀ z : Int, z = beyondK k wy f.many → ∀ p q, (upd H t (.tup [V.ref fa_half_stair, V.ref fa_below_half_stair])) p = none → (upd (upd H t (.tup [V.ref fa_half_stair, V.ref fa_below_half_stair])) p (.tup [.int 0, .int z, .int 1])) q = none →
          Q (.ref q) (upd (upd (upd H t (.tup [V.ref fa_half_stair, V.ref fa_below_half_stair])) p (.tup [.int 0, .int z, .int 1])) q (.tup [.ref p])) := fun z hz p q hp hq => by
        subst hz
        obtain ⟨z1, z2⟩ := fin1 hp hq
        exact hQ _ q (s1.trans z1) (by rw [es]; exact z2)
      by_cases hin : kf' ∈ [fa_half_stair, fa_below_half_stair]
      · rw [decide_eq_true hin]
        have ek : beyondK k wy f.many = beyond wy f.many / 2 := by
          rcases List.mem_cons.mp hin with rfl | hin
          · have := KA.ne _ _ _ hk g_half_stair
            rw [this]; rfl
          · have e2 := List.mem_singleton.mp hin
            rw [e2] at hk
            have := KA.ne _ _ _ hk g_below_half_stair
            rw [this]; rfl
        refine iteT ⟨_, rfl, _, _, rfl, rfl, ⟨by decide, by decide⟩, (by show 3 ≤ sizeLine; decide), fun p hp => ⟨(by show 1 ≤ sizeLine; decide), fun q hq => ?_⟩⟩
        exact fin _ ek.symm p q hp hq
      · rw [decide_eq_false hin]
        have ek : beyondK k wy f.many = beyond wy f.many := by
          cases k with
          | read => rfl
          | up => rfl
          | half =>
            have : kf' = fa_half_stair := by
              have := hk.symm.trans g_half_stair
              exact Value.ref.inj (Option.some.inj this)
            exact absurd (by rw [this]; exact List.mem_cons_self) hin
          | below =>
            have : kf' = fa_below_half_stair := by
              have := hk.symm.trans g_below_half_stair
              exact Value.ref.inj (Option.some.inj this)
            exact absurd (by rw [this]; simp) hin
        refine iteF ⟨_, rfl, (by show 3 ≤ sizeLine; decide), fun p hp => ⟨(by show 1 ≤ sizeLine; decide), fun q hq => ?_⟩⟩
        exact fin _ ek.symm p q hp hq
end
end K45
/-! ## W6 -/
namespace K45
open PySem PySem.Spec PyProof.Rows L2
def TnAt (H : Hp) (a : Addr) (t : Turn) : Prop := H a = some (.tup [.int t.n, .int t.a, .int t.b, .int t.c])
structure LnB (l : Line) : Prop where
  c0 : 0 < l.c
  c1 : l.c < 2 ^ 100
structure TnB (t : Turn) : Prop where
  n0 : 0 ≤ t.n
  n1 : t.n ≤ 256
  c0 : 0 < t.c
  c1 : t.c < 2 ^ 100
theorem TnB.ok {t : Turn} (b : TnB t) : t.Ok := ⟨b.n0, b.c0⟩
theorem TnB.next {t : Turn} (b : TnB t) (h : t.last = false) : TnB t.next := by
  have o := Turn.next_ok b.ok h
  have n := Turn.next_n b.ok
  have c := Turn.next_ac b.ok
  have e : t.next.a = t.c := rfl
  have b2 := b.c1
  have b3 := b.n1
  exact ⟨o.n0, by omega, o.c0, by omega⟩
def Line.turn (l : Line) (lo hi : Int) : Turn := ⟨max 0 (hi - lo), l.a, l.b + l.a * lo, l.c⟩
theorem yes_it {σ : L2.St} {H : Hp} {Q : Bool → Hp → Prop} (h : Q true H) : tYes σ H Q := h
theorem same_up {H H' : Hp} {D : Addr} {o : HO} (s : Same H H') (h : H D = none) : Same H (upd H' D o) := fun b u e => by rw [upd_ne (ne_of_none e h)]; exact s b u e
/-! ### promises -/
def spVal : Sp := fun vs H Q _ => ∃ (a : Addr) (l : Line) (x : Int), vs = [.ref a, .int x] ∧ LnAt H a l ∧ LnB l ∧ -1000 ≤ x ∧ x ≤ 1000 ∧ Q (.int (lv l.a l.b l.c x)) H
def spFirst : Sp := fun vs H Q _ => ∃ (a : Addr) (l : Line) (lo hi : Int), vs = [.ref a, .int lo, .int hi] ∧ LnAt H a l ∧ 0 ≤ lo ∧ lo ≤ 1000 ∧ ∀ H' p, Same H H' → TnAt H' p (l.turn lo hi) → Q (.ref p) H'
def spNext : Sp := fun vs H Q _ => ∃ (a : Addr) (t : Turn), vs = [.ref a] ∧ TnAt H a t ∧ TnB t ∧ (t.last = true → Q .non H) ∧ (t.last = false → ∀ H' p, Same H H' → TnAt H' p t.next → Q (.ref p) H')
def spTurnSum : Sp := fun vs H Q _ => ∃ (a : Addr) (t : Turn) (more : Int), vs = [.ref a, .int more] ∧ TnAt H a t ∧ TnB t ∧ ∀ H', Same H H' → Q (.int (t.told more)) H'
section
variable {P : Program} {w : World} {K : PySem.W.Frag} {mg : Str → Option Value} {base : Heap}
theorem sc_value_at : FnScope ["line", "x", "a", "b", "c"] ["line", "x"] (defScope s_value_at) := ⟨rfl, rfl, rfl, by decide +kernel, rfl, by decide +kernel, by decide +kernel⟩
theorem cl_value_at (D : DefAt K mg "value_at" s_value_at) : Cl P w K mg base CX0 1 "value_at" spVal := by
  refine cl_of D (fun _ _ _ _ _ _ us hl => match us, hl with | [_, _], _ => rfl) sc_value_at (fun vs H Q E h => ?_) (fun f cdv A outer s H vs Q E hr h => ?_)
  · obtain ⟨a, l, x, rfl, _⟩ := h
    rfl
  · obtain ⟨a, l, x, rfl, hl, bl, x0, x1, hQ⟩ := h
    refine ⟨_, PSs.nox (pss_cons (ps_asg (pv 0) (pg_tup rfl (pgs_cons (pg_name (i := 2) sc_value_at.nd rfl (Or.inl rfl)) (pgs_cons (pg_name (i := 3) sc_value_at.nd rfl (Or.inl rfl)) (pgs_cons (pg_name (i := 4) sc_value_at.nd rfl (Or.inl rfl)) pgs_nil)))))
      (pss_one (ps_ret (pe_op op_fdivW (pe_op op_add (pe_op op_mul (pv 2) (pv 1)) (pv 3)) (pv 4))))), ?_⟩
    refine ⟨_, rfl, a, _, rfl, SqT.of hl, rfl, _, _, rfl, _, _, rfl, _, _, rfl, rfl, ?_⟩
    refine ⟨_, rfl, _, rfl, _, _, rfl, rfl, .inr ⟨by omega, by omega⟩, _, rfl, _, _, rfl, rfl, _, rfl, _, _, rfl, rfl, div_ok bl.c0 bl.c1 (by decide) (by decide), ?_⟩
    exact hQ
theorem sc_first_turn : FnScope ["line", "low", "high", "a", "b", "c"] ["line", "low", "high"] (defScope s_first_turn) := ⟨rfl, rfl, rfl, by decide +kernel, rfl, by decide +kernel, by decide +kernel⟩
theorem cl_first_turn (D : DefAt K mg "first_turn" s_first_turn) (g_max : mg "max" = none) : Cl P w K mg base CX0 1 "first_turn" spFirst := by
  refine cl_of D (fun _ _ _ _ _ _ us hl => match us, hl with | [_, _, _], _ => rfl) sc_first_turn (fun vs H Q E h => ?_) (fun f cdv A outer s H vs Q E hr h => ?_)
  · obtain ⟨a, l, x, y, rfl, _⟩ := h
    rfl
  · obtain ⟨a, l, lo, hi, rfl, hl, x0, x1, hQ⟩ := h
    refine ⟨_, PSs.nox (pss_cons (ps_asg (pv 0) (pg_tup rfl (pgs_cons (pg_name (i := 3) sc_first_turn.nd rfl (Or.inl rfl)) (pgs_cons (pg_name (i := 4) sc_first_turn.nd rfl (Or.inl rfl)) (pgs_cons (pg_name (i := 5) sc_first_turn.nd rfl (Or.inl rfl)) pgs_nil)))))
      (pss_one (ps_ret (pe_tup (pa_cons (pe_callB (call_max2 rfl) (by rfl) g_max (by decide +kernel) (pa_cons pe_int (pa_cons (pe_op op_sub (pv 2) (pv 1)) pa_nil))) (pa_cons (pv 3) (pa_cons (pe_op op_add (pv 4) (pe_op op_mul (pv 3) (pv 1))) (pa_cons (pv 5) pa_nil)))))))), ?_⟩
    refine ⟨_, rfl, a, _, rfl, SqT.of hl, rfl, _, _, rfl, _, _, rfl, _, _, rfl, rfl, ?_⟩
    refine ⟨_, rfl, _, rfl, _, _, rfl, rfl, _, _, rfl, ?_⟩
    refine ⟨_, rfl, _, rfl, _, rfl, _, rfl, _, _, rfl, rfl, .inr ⟨by omega, by omega⟩, _, _, rfl, rfl, _, rfl, (by show 4 ≤ sizeLine; decide), fun p hp => ?_⟩
    refine hQ _ p (same_of_upd hp) ?_
    have e : (if hi - lo > 0 then hi - lo else 0) = (l.turn lo hi).n := by
      show _ = max 0 (hi - lo)
      split <;> omega
    show upd H p (.tup [V.int (if hi - lo > 0 then hi - lo else 0), V.int l.a, V.int (l.b + l.a * lo), V.int l.c]) p = _
    rw [e]
    exact upd_same
theorem sc_next_turn : FnScope ["turn", "n", "a", "b", "c", "top"] ["turn"] (defScope s_next_turn) := ⟨rfl, rfl, rfl, by decide +kernel, rfl, by decide +kernel, by decide +kernel⟩
theorem cl_next_turn (D : DefAt K mg "next_turn" s_next_turn) (g_SMALL : ∃ t, mg "SMALL" = some (.int 4 t)) : Cl P w K mg base CX0 1 "next_turn" spNext := by
  refine cl_of D (fun _ _ _ _ _ _ us hl => match us, hl with | [_], _ => rfl) sc_next_turn (fun vs H Q E h => ?_) (fun f cdv A outer s H vs Q E hr h => ?_)
  · obtain ⟨a, t, rfl, _⟩ := h
    rfl
  · obtain ⟨a, t, rfl, ht, bt, q1, q2⟩ := h
    obtain ⟨tS, g_SMALL⟩ := g_SMALL
    have c0 := bt.c0
    have n0 := bt.n0
    have n1 := bt.n1
    refine ⟨_, PSs.nox (pss_cons (ps_asg (pv 0) (pg_tup rfl (pgs_cons (pg_name (i := 1) sc_next_turn.nd rfl (Or.inl rfl)) (pgs_cons (pg_name (i := 2) sc_next_turn.nd rfl (Or.inl rfl)) (pgs_cons (pg_name (i := 3) sc_next_turn.nd rfl (Or.inl rfl)) (pgs_cons (pg_name (i := 4) sc_next_turn.nd rfl (Or.inl rfl)) pgs_nil))))))
      (pss_cons (ps_set (i := 5) sc_next_turn.nd rfl (Or.inl rfl) (pe_op op_add (pe_op op_mul (pe_op op_mod (pv 2) (pv 4)) (pv 1)) (pe_op op_mod (pv 3) (pv 4))))
      (pss_cons (ps_if (PW.pt (pw_or (pt_cmpR op_le (pv 1) (pe_glob (v := .int 4) (by rfl) g_SMALL ⟨_, rfl⟩) (nomark _)) (pw_or1 (pt_cmpR op_lt (pv 5) (pv 4) (nomark _)))))
        (pss_one (ps_ret pe_non))
        pss_nil)
      (pss_one (ps_ret (pe_tup (pa_cons (pe_op op_fdivW (pv 5) (pv 4)) (pa_cons (pv 4) (pa_cons (pe_op op_mod (pv 5) (pv 4)) (pa_cons (pe_op op_mod (pv 2) (pv 4)) pa_nil)))))))))), ?_⟩
    refine ⟨_, rfl, a, _, rfl, SqT.of ht, rfl, _, _, rfl, _, _, rfl, _, _, rfl, _, _, rfl, rfl, ?_⟩
    refine ⟨_, rfl, _, rfl, _, _, rfl, rfl, c0, _, rfl, _, _, rfl, rfl, .inr ⟨by omega, by omega⟩, _, rfl, _, rfl, _, _, rfl, rfl, c0, _, _, rfl, rfl, ?_⟩
    refine ⟨_, rfl, _, _, rfl, rfl, _, rfl, ?_⟩
    by_cases h4 : t.n ≤ 4
    · rw [decide_eq_true h4]
      refine iteT (iteT ?_)
      refine q1 ?_
      unfold Turn.last
      rw [decide_eq_true h4]; rfl
    · rw [decide_eq_false h4]
      refine iteF ⟨_, rfl, _, rfl, _, _, rfl, rfl, _, rfl, ?_⟩
      by_cases hc : t.top < t.c
      · rw [show decide (t.a % t.c * t.n + t.b % t.c < t.c) = true from decide_eq_true hc]
        refine iteT ?_
        refine q1 ?_
        unfold Turn.last
        rw [decide_eq_true hc, Bool.or_true]
      · rw [show decide (t.a % t.c * t.n + t.b % t.c < t.c) = false from decide_eq_false hc]
        refine iteF ?_
        refine ⟨_, rfl, _, rfl, _, _, rfl, rfl, div_ok c0 bt.c1 (by decide) (by decide), _, rfl, _, rfl, _, rfl, _, _, rfl, rfl, c0, _, rfl, _, rfl, _, _, rfl, rfl, c0, (by show 4 ≤ sizeLine; decide), fun p hp => ?_⟩
        refine q2 ?_ _ p (same_of_upd hp) upd_same
        unfold Turn.last
        rw [decide_eq_false h4, decide_eq_false hc]; rfl
theorem sc_sum_of_turn : FnScope ["turn", "more", "n", "a", "b", "c", "x"] ["turn", "more"] (defScope s_sum_of_turn) := ⟨rfl, rfl, rfl, by decide +kernel, rfl, by decide +kernel, by decide +kernel⟩
theorem sum_sm (f : Nat → Int) : ∀ n, ((List.range n).map f).sum = sm f n
  | 0 => rfl
  | n + 1 => by
    rw [List.range_succ, List.map_append, List.sum_append, sum_sm f n]
    show sm f n + (f n + 0) = sm f n + f n
    rw [Int.add_zero]
theorem cl_sum_of_turn (D : DefAt K mg "sum_of_turn" s_sum_of_turn) (g_SMALL : ∃ t, mg "SMALL" = some (.int 4 t)) (g_sum : mg "sum" = none) (g_range : mg "range" = none) (c_value_at : Cl P w K mg base CX0 1 "value_at" spVal) : Cl P w K mg base CX0 2 "sum_of_turn" spTurnSum := by
  refine cl_of D (fun _ _ _ _ _ _ us hl => match us, hl with | [_, _], _ => rfl) sc_sum_of_turn (fun vs H Q E h => ?_) (fun f cdv A outer s H vs Q E hr h => ?_)
  · obtain ⟨a, t, m, rfl, _⟩ := h
    rfl
  · obtain ⟨a, t, more, rfl, ht, bt, hQ⟩ := h
    obtain ⟨tS, g_SMALL⟩ := g_SMALL
    have c0 := bt.c0
    have n0 := bt.n0
    have n1 := bt.n1
    refine ⟨_, PSs.nox (pss_cons (ps_asg (pv 0) (pg_tup rfl (pgs_cons (pg_name (i := 2) sc_sum_of_turn.nd rfl (Or.inl rfl)) (pgs_cons (pg_name (i := 3) sc_sum_of_turn.nd rfl (Or.inr rfl)) (pgs_cons (pg_name (i := 4) sc_sum_of_turn.nd rfl (Or.inr rfl)) (pgs_cons (pg_name (i := 5) sc_sum_of_turn.nd rfl (Or.inr rfl)) pgs_nil))))))
      (pss_cons (ps_if (pt_cmpR op_le (pv 2) (pe_glob (v := .int 4) (by rfl) g_SMALL ⟨_, rfl⟩) (nomark _))
        (pss_one (ps_ret (pe_callB (cr_sum rfl) (by rfl) g_sum (by decide +kernel) (pa_cons (pe_lc (own := [("x", 6)]) rfl sc_sum_of_turn.nd (pi_range1 (by rfl) g_range (pa_cons (pv 2) pa_nil)) (blkOk_by (N := ["turn", "more", "n", "a", "b", "c", "x"]) (sc := defScope s_sum_of_turn) (by decide +kernel)) (fun _ _ _ _ _ => (pg_name (i := 6) sc_sum_of_turn.nd rfl (Or.inl rfl))) (fun _ _ _ _ _ => pts_nil) (fun _ _ _ _ _ => (pe_cl c_value_at hr (by decide) pass0 (pa_cons (pe_tup (pa_cons (pv 3) (pa_cons (pv 4) (pa_cons (pv 5) pa_nil)))) (pa_cons (pv 6) pa_nil))))) pa_nil))))
        pss_nil)
      (pss_one (ps_ret (pe_op op_add (pe_op op_add (pe_op op_mul (pe_op op_fdivW (pv 3) (pv 5)) (pe_op op_fdiv (pe_op op_mul (pv 2) (pe_op op_sub (pv 2) pe_int)) pe_int)) (pe_op op_mul (pe_op op_fdivW (pv 4) (pv 5)) (pv 2))) (pv 1)))))), ?_⟩
    refine ⟨_, rfl, a, _, rfl, SqT.of ht, rfl, _, _, rfl, _, _, rfl, _, _, rfl, _, _, rfl, rfl, ?_⟩
    refine ⟨_, rfl, _, _, rfl, rfl, _, rfl, ?_⟩
    by_cases h4 : t.n ≤ 4
    · rw [decide_eq_true h4]
      refine iteT ?_
      refine ⟨_, rfl, t.n, rfl, by omega, by omega, fun D hD => lc_range
        (fun i H2 => Same H H2 ∧ H2 D = some (.lst (((List.range i).map fun (x : Nat) => lv t.a t.b t.c (x : Int)).map V.int))) ⟨same_of_upd hD, upd_same⟩
        (fun i H2 hi ⟨s2, l2⟩ => ?_) (fun H2 ⟨s2, l2⟩ => ?_)⟩
      · refine ⟨rfl, ?_⟩
        refine yes_it (iteT ?_)
        refine ⟨_, rfl, _, rfl, _, rfl, (by show 3 ≤ sizeLine; decide), fun p hp => ⟨_, rfl, p, ⟨t.a, t.b, t.c⟩, 0 + (i : Int), rfl, upd_same, ⟨c0, bt.c1⟩, by omega, by omega, _, same_of_upd hp _ _ l2, ?_, ?_⟩⟩
        · rw [List.length_map, List.length_map, List.length_range]
          show i < 2 ^ 24
          omega
        · refine ⟨same_up (s2.trans (same_of_upd hp)) hD, ?_⟩
          rw [upd_same, List.range_succ, List.map_append, List.map_append, Int.zero_add]
          rfl
      · refine ⟨_, _, rfl, SqL.of l2, ?_⟩
        have e : t.told more = ((List.range t.n.toNat).map fun (x : Nat) => lv t.a t.b t.c (x : Int)).sum := by
          unfold Turn.told
          rw [if_pos h4, sum_sm]; rfl
        have := hQ H2 s2
        rw [e] at this
        exact this
    · rw [decide_eq_false h4]
      refine iteF ?_
      refine ⟨_, rfl, _, rfl, _, _, rfl, rfl, div_ok c0 bt.c1 (by decide) (by decide), _, rfl, _, rfl, _, _, rfl, rfl, _, _, rfl, rfl, .inl ⟨by omega, by omega⟩, _, _, rfl, rfl, ⟨by decide, by decide⟩, _, _, rfl, rfl, .inr ?_, _, rfl, _, rfl, _, _, rfl, rfl, div_ok c0 bt.c1 (by decide) (by decide), _, rfl, _, _, rfl, rfl, .inr ⟨by omega, by omega⟩, _, _, rfl, rfl, _, rfl, _, _, rfl, rfl, ?_⟩
      · have h1 : t.n * (t.n - 1) ≤ 256 * 256 := Int.mul_le_mul (by omega) (by omega) (by omega) (by decide)
        have h2 : 0 ≤ t.n * (t.n - 1) := Int.mul_nonneg n0 (by omega)
        constructor <;> omega
      · have := hQ H (fun _ _ h => h)
        unfold Turn.told at this
        rw [if_neg h4] at this
        exact this
end
end K45
/-! ## W7 -/
namespace K45
open PySem PySem.Spec PyProof.Rows L2
/-! ### turns, one after the other -/
def tnx (t : Turn) : Nat → Turn
  | 0 => t
  | k + 1 => (tnx t k).next
theorem tnx_b {t : Turn} (b : TnB t) : ∀ k, (∀ i, i < k → (tnx t i).last = false) → TnB (tnx t k)
  | 0, _ => b
  | k + 1, h => (tnx_b b k fun i hi => h i (by omega)).next (h k (by omega))
theorem tnx_bound {t : Turn} (b : TnB t) {k : Nat} (h : ∀ i, i < k → (tnx t i).last = false) : k ≤ 202 := by
  have pot : ∀ j, j + 1 ≤ k → 0 < (tnx t (j + 1)).a * (tnx t (j + 1)).c ∧ 2 ^ j * ((tnx t (j + 1)).a * (tnx t (j + 1)).c) ≤ (2 : Int) ^ 200 := by
    intro j
    induction j with
    | zero =>
      intro hj
      have b0 := b
      have b1 := tnx_b b 1 fun i hi => h i (by omega)
      have ac := Turn.next_ac b0.ok
      have e1 : (tnx t 1) = t.next := rfl
      rw [e1] at b1
      show 0 < t.next.a * t.next.c ∧ 2 ^ 0 * (t.next.a * t.next.c) ≤ _
      have c0 := b1.c0
      have c1 := b.c1
      have ea : t.next.a = t.c := rfl
      rw [ea] at ac ⊢
      have b3 := b.c0
      refine ⟨Int.mul_pos b3 c0, ?_⟩
      have : t.c * t.next.c ≤ 2 ^ 100 * 2 ^ 100 := Int.mul_le_mul (by omega) (by omega) (by omega) (by decide)
      have e2 : (2 : Int) ^ 100 * 2 ^ 100 = 2 ^ 200 := by decide
      rw [e2] at this
      rw [Int.pow_zero, Int.one_mul]
      exact this
    | succ j ih =>
      intro hj
      obtain ⟨p0, p1⟩ := ih (by omega)
      have bj := tnx_b b (j + 1) fun i hi => h i (by omega)
      have bj2 := tnx_b b (j + 2) fun i hi => h i (by omega)
      have bj1 := tnx_b b j fun i hi => h i (by omega)
      have ac : (tnx t (j + 1)).c < (tnx t (j + 1)).a := Turn.next_ac bj1.ok
      have hh := Turn.next_half bj.ok (h (j + 1) (by omega)) ac
      show 0 < (tnx t (j + 1)).next.a * (tnx t (j + 1)).next.c ∧ 2 ^ (j + 1) * ((tnx t (j + 1)).next.a * (tnx t (j + 1)).next.c) ≤ _
      have c0 : 0 < (tnx t (j + 1)).next.c := bj2.c0
      have ac2 : (tnx t (j + 1)).next.c < (tnx t (j + 1)).next.a := Turn.next_ac bj.ok
      refine ⟨Int.mul_pos (by omega) c0, ?_⟩
      have e : (2 : Int) ^ (j + 1) * ((tnx t (j + 1)).next.a * (tnx t (j + 1)).next.c) = 2 ^ j * (2 * ((tnx t (j + 1)).next.a * (tnx t (j + 1)).next.c)) := by
        rw [Int.pow_succ, Int.mul_assoc]
      rw [e]
      exact Int.le_trans (Int.mul_le_mul_of_nonneg_left hh (Int.le_of_lt (p2pos j))) p1
  refine Nat.not_lt.mp fun hk => ?_
  obtain ⟨p0, p1⟩ := pot 201 (by omega)
  have : (2 : Int) ^ 201 * 1 ≤ 2 ^ 201 * ((tnx t 202).a * (tnx t 202).c) := Int.mul_le_mul_of_nonneg_left p0 (by decide)
  have e : (2 : Int) ^ 200 < 2 ^ 201 * 1 := by decide
  omega
/-- what the list of turns holds -/
structure Tns (H : Hp) (xs : List V) (t : Turn) (k : Nat) : Prop where
  len : xs.length = k
  at_ : ∀ i, i < k → ∃ r, xs[i]? = some (V.ref r) ∧ TnAt H r (tnx t i)
theorem Tns.same {H H' : Hp} {xs : List V} {t : Turn} {k : Nat} (s : Same H H') (h : Tns H xs t k) : Tns H' xs t k :=
  ⟨h.len, fun i hi => let ⟨r, e, q⟩ := h.at_ i hi; ⟨r, e, s _ _ q⟩⟩
theorem TnAt.not {H : Hp} {r L : Addr} {xs : List V} {t : Turn} (h : TnAt H r t) (hL : H L = some (.lst xs)) : r ≠ L := fun e => by
  subst e
  unfold TnAt at h
  rw [hL] at h
  cases h
theorem TnAt.up {H : Hp} {r L : Addr} {xs ys : List V} {t : Turn} (h : TnAt H r t) (hL : H L = some (.lst xs)) : TnAt (upd H L (.lst ys)) r t := by
  have := TnAt.not h hL
  unfold TnAt
  rw [upd_ne this]
  exact h
theorem Tns.up {H : Hp} {L : Addr} {xs ys zs : List V} {t : Turn} {k : Nat} (h : Tns H xs t k) (hL : H L = some (.lst zs)) : Tns (upd H L (.lst ys)) xs t k :=
  ⟨h.len, fun i hi => let ⟨r, e, q⟩ := h.at_ i hi; ⟨r, e, TnAt.up q hL⟩⟩
theorem Tns.app {H : Hp} {r : Addr} {xs : List V} {t : Turn} {k : Nat} (h : Tns H xs t k) (hr : TnAt H r (tnx t k)) : Tns H (xs ++ [V.ref r]) t (k + 1) := by
  refine ⟨by rw [List.length_append, h.len]; rfl, fun i hi => ?_⟩
  by_cases e : i = k
  · subst e
    refine ⟨r, ?_, hr⟩
    rw [List.getElem?_append_right (by rw [h.len]; exact Nat.le_refl _), h.len, Nat.sub_self]; rfl
  · obtain ⟨r', e', q⟩ := h.at_ i (by omega)
    exact ⟨r', by rw [List.getElem?_append_left (by rw [h.len]; omega)]; exact e', q⟩
/-- where the walk over the turns stands -/
inductive TwAt (H : Hp) (t : Turn) (xs : List V) : V → Nat → Prop where
  | on {r : Addr} {k : Nat} (h : Tns H xs t k) (hr : TnAt H r (tnx t k)) (hl : ∀ i, i < k → (tnx t i).last = false) : TwAt H t xs (.ref r) (300 - k)
  | off {k : Nat} (h : Tns H xs t (k + 1)) (hl : ∀ i, i < k → (tnx t i).last = false) (hk : (tnx t k).last = true) : TwAt H t xs .non 0
/-- the sum as it grows from the last turn -/
def upSum (t : Turn) (k j : Nat) : Int := match j with | 0 => 0 | j + 1 => (tnx t (k - j)).sum
theorem upSum_step {t : Turn} (b : TnB t) {k : Nat} (hl : ∀ i, i < k → (tnx t i).last = false) (hk : (tnx t k).last = true) {j : Nat} (hj : j ≤ k) : (tnx t (k - j)).told (upSum t k j) = upSum t k (j + 1) := by
  cases j with
  | zero => exact Turn.last_sum (tnx_b b k hl).ok hk
  | succ j =>
    have bb := tnx_b b (k - (j + 1)) fun i hi => hl i (by omega)
    have e : (tnx t (k - (j + 1))).next = tnx t (k - j) := by
      rw [show k - j = (k - (j + 1)) + 1 by omega]; rfl
    have := Turn.next_sum bb.ok (hl _ (by omega))
    rw [e] at this
    exact this
/-- what the list of rows holds: the newest row is the last -/
def RwAt (H : Hp) (ys : List V) (z : Int) : Prop := ∃ q n a b c, ys.getLast? = some (V.ref q) ∧ H q = some (.tup [.int n, .int a, .int b, .int c, .int z])
theorem Line.turn_b {l : Line} {lo hi : Int} (b : LnB l) (h : hi - lo ≤ 256) : TnB (l.turn lo hi) := by
  refine ⟨?_, ?_, b.c0, b.c1⟩
  · show 0 ≤ max 0 (hi - lo); omega
  · show max 0 (hi - lo) ≤ 256; omega
/-! ### promises -/
def spRows : Sp := fun vs H Q _ => ∃ (a : Addr) (l : Line) (lo hi : Int), vs = [.ref a, .int lo, .int hi] ∧ LnAt H a l ∧ LnB l ∧ 0 ≤ lo ∧ lo ≤ 1000 ∧ hi - lo ≤ 256 ∧
  ∀ H' p q rest n a b c, Same H H' → H' p = some (.tup (.ref q :: rest)) → H' q = some (.tup [.int n, .int a, .int b, .int c, .int (l.turn lo hi).sum]) → Q (.ref p) H'
def spSum : Sp := fun vs H Q _ => ∃ (a : Addr) (l : Line) (lo hi : Int), vs = [.ref a, .int lo, .int hi] ∧ LnAt H a l ∧ LnB l ∧ 0 ≤ lo ∧ lo ≤ 1000 ∧ hi - lo ≤ 256 ∧ ∀ H', Same H H' → Q (.int (l.turn lo hi).sum) H'
section
variable {P : Program} {w : World} {K : PySem.W.Frag} {mg : Str → Option Value} {base : Heap}
theorem sc_sum_rows : FnScope ["line", "low", "high", "turns", "turn", "rows", "total"] ["line", "low", "high"] (defScope s_sum_rows) := ⟨rfl, rfl, rfl, by decide +kernel, rfl, by decide +kernel, by decide +kernel⟩
theorem cl_sum_rows (D : DefAt K mg "sum_rows" s_sum_rows) (g_tuple : mg "tuple" = none) (c_first_turn : Cl P w K mg base CX0 1 "first_turn" spFirst) (c_next_turn : Cl P w K mg base CX0 1 "next_turn" spNext) (c_sum_of_turn : Cl P w K mg base CX0 2 "sum_of_turn" spTurnSum) :
    Cl P w K mg base CX0 3 "sum_rows" spRows := by
  refine cl_of D (fun _ _ _ _ _ _ us hl => match us, hl with | [_, _, _], _ => rfl) sc_sum_rows (fun vs H Q E h => ?_) (fun f cdv A outer s H vs Q E hr h => ?_)
  · obtain ⟨a, l, x, y, rfl, _⟩ := h
    rfl
  · obtain ⟨a, l, lo, hi, rfl, hl, bl, x0, x1, hn, hQ⟩ := h
    refine ⟨_, PSs.nox (pss_cons (ps_par (i := 3) (j := 4) rfl sc_sum_rows.nd rfl rfl (by decide) rfl rfl (pa_cons (pe_lst pa_nil) (pa_cons (pe_cl c_first_turn hr (by decide) pass0 (pa_cons (pv 0) (pa_cons (pv 1) (pa_cons (pv 2) pa_nil)))) pa_nil)) (by rfl))
      (pss_cons (ps_while PassesOwn.never (pt_cmpR op_notN (pv 4) pe_non (by rfl))
        (pss_cons (ps_expr (pe_bm PySem.F.plainAttrs_list PySem.F.slot_list_append PySem.F.type_list_append mt_append (pv 3) (pa_cons (pv 4) pa_nil)))
        (pss_one (ps_set (i := 4) sc_sum_rows.nd rfl (Or.inl rfl) (pe_cl c_next_turn hr (by decide) pass0 (pa_cons (pv 4) pa_nil))))))
      (pss_cons (ps_par (i := 5) (j := 6) rfl sc_sum_rows.nd rfl rfl (by decide) rfl rfl (pa_cons (pe_lst pa_nil) (pa_cons pe_int pa_nil)) (by rfl))
      (pss_cons (ps_for PassesOwn.never rfl (pi_list (pe_revL (pv 3))) (pg_name (i := 4) sc_sum_rows.nd rfl (Or.inl rfl))
        (pss_cons (ps_set (i := 6) sc_sum_rows.nd rfl (Or.inl rfl) (pe_cl c_sum_of_turn hr (by decide) pass0 (pa_cons (pv 4) (pa_cons (pv 6) pa_nil))))
        (pss_one (ps_expr (pe_bm PySem.F.plainAttrs_list PySem.F.slot_list_append PySem.F.type_list_append mt_append (pv 5) (pa_cons (pe_tup (StX.pa_star (pv 4) (pa_cons (pv 6) pa_nil))) pa_nil))))))
      (pss_one (ps_ret (pe_tupleOf (by rfl) g_tuple (pe_revL (pv 5))))))))), ?_⟩
    have bT := Line.turn_b bl hn
    refine ⟨(by show 0 ≤ sizeLine; decide), fun L hL => ?_⟩
    refine ⟨_, rfl, _, rfl, _, rfl, a, l, lo, hi, rfl, same_of_upd hL _ _ hl, x0, x1, fun H1 p s1 hp => ?_⟩
    have sL : H1 L = some (.lst []) := s1 _ _ upd_same
    have s0 : Same H H1 := (same_of_upd hL).trans s1
    refine ⟨_, _, rfl, ?_⟩
    refine ⟨fun m σ H' => ∃ xs v, σ = [some (.ref a), some (.int lo), some (.int hi), some (.ref L), some v, none, none] ∧ Same H H' ∧ H' L = some (.lst xs) ∧ TwAt H' (l.turn lo hi) xs v m,
      ⟨_, [], _, rfl, s0, sL, .on ⟨rfl, fun i hi => absurd hi (Nat.not_lt_zero _)⟩ hp (fun i hi => absurd hi (Nat.not_lt_zero _))⟩, ?_⟩
    rintro m σ H' ⟨xs, v, rfl, s2, hxs, tw⟩
    cases tw with
    | @on r k tn hr2 hl2 =>
      have kb := tnx_bound bT hl2
      have tb := tnx_b bT k hl2
      refine ⟨_, rfl, rfl, _, rfl, ?_⟩
      refine iteT ⟨_, fun _ _ h => h, ?_⟩
      have s3 : Same H (upd H' L (.lst (xs ++ [V.ref r]))) := same_up s2 hL
      refine ⟨_, rfl, .inl ⟨rfl, xs, SqL.of hxs⟩, _, rfl, L, xs, _, rfl, rfl, hxs, (by rw [tn.len]; show k < 2 ^ 24; omega), ?_⟩
      have hr3 := TnAt.up (ys := xs ++ [V.ref r]) hr2 hxs
      have tn3 := Tns.app (Tns.up (ys := xs ++ [V.ref r]) tn hxs) hr3
      refine ⟨_, rfl, r, _, rfl, hr3, tb, fun hla => ?_, fun hla H4 p4 s4 hp4 => ?_⟩
      · exact ⟨0, (by omega), _, _, rfl, s3, upd_same, .off tn3 hl2 hla⟩
      · refine ⟨_, (show 300 - (k + 1) < 300 - k by omega), _, _, rfl, s3.trans s4, s4 _ _ upd_same, .on (tn3.same s4) hp4 fun i hi => ?_⟩
        by_cases e : i = k
        · rw [e]; exact hla
        · exact hl2 i (by omega)
    | @off k tn hl2 hk =>
      have kb := tnx_bound bT hl2
      refine ⟨_, rfl, rfl, _, rfl, ?_⟩
      refine iteF ?_
      refine ⟨(by show 0 ≤ sizeLine; decide), fun R hR => ?_⟩
      have s3 : Same H (upd H' R (.lst [])) := s2.trans (same_of_upd hR)
      refine ⟨_, _, rfl, ?_⟩
      refine ⟨_, rfl, L, xs, rfl, SqL.of (same_of_upd hR _ _ hxs), fun B hB => ?_⟩
      have RB : R ≠ B := fun e => by rw [e, upd_same] at hB; cases hB
      have hR0 : H R = none := by
        cases e : H R with
        | none => rfl
        | some o => have := s2 _ _ e; rw [hR] at this; cases this
      have hB0 : H B = none := by
        cases e : H B with
        | none => rfl
        | some o => have := s3 _ _ e; rw [hB] at this; cases this
      refine ⟨B, rfl, ⟨xs.reverse, SqL.of upd_same⟩, for_list (xs := xs.reverse) (fun j σ H2 => ∃ ys v, σ = [some (.ref a), some (.int lo), some (.int hi), some (.ref L), v, some (.ref R), some (.int (upSum (l.turn lo hi) k j))] ∧ Same H H2 ∧
          H2 R = some (.lst ys) ∧ H2 B = some (.lst xs.reverse) ∧ Tns H2 xs (l.turn lo hi) (k + 1) ∧ ys.length = j ∧ (0 < j → RwAt H2 ys (upSum (l.turn lo hi) k j)))
        ⟨[], _, rfl, s3.trans (same_of_upd hB), same_of_upd hB _ _ upd_same, upd_same, (tn.same (same_of_upd hR)).same (same_of_upd hB), rfl, fun h => absurd h (Nat.lt_irrefl 0)⟩
        (fun j σ H2 _ ⟨ys, v, e, s4, hR4, hB4, t4, l4, r4⟩ => SqL.of hB4) (fun j x σ H2 hx ⟨ys, v, e, s4, hR4, hB4, t4, l4, r4⟩ => ?_) (fun σ H2 ⟨ys, v, e, s4, hR4, hB4, t4, l4, r4⟩ => ?_)⟩
      · subst e
        have hj : j < k + 1 := by
          have := (List.getElem?_eq_some_iff.mp hx).1
          rw [List.length_reverse, tn.len] at this
          exact this
        rw [List.getElem?_reverse (by rw [tn.len]; exact hj), tn.len] at hx
        obtain ⟨r, er, hr4⟩ := t4.at_ (k - j) (by omega)
        rw [show k + 1 - 1 - j = k - j by omega, er] at hx
        obtain rfl := Option.some.inj hx
        refine ⟨_, rfl, _, rfl, r, _, _, rfl, hr4, tnx_b bT (k - j) (fun i hi => hl2 i (by omega)), fun H5 s5 => ?_⟩
        rw [upSum_step bT hl2 hk (show j ≤ k by omega)]
        have hR5 := s5 _ _ hR4
        refine ⟨_, rfl, .inl ⟨rfl, ys, SqL.of hR5⟩, _, rfl, r, _, rfl, .inl (SqT.of (s5 _ _ hr4)), _, rfl, (by show 5 ≤ sizeLine; decide), fun q hq => ?_⟩
        have s6 := same_of_upd (o := .tup [V.int (tnx (l.turn lo hi) (k - j)).n, V.int (tnx (l.turn lo hi) (k - j)).a, V.int (tnx (l.turn lo hi) (k - j)).b, V.int (tnx (l.turn lo hi) (k - j)).c, V.int (upSum (l.turn lo hi) k (j + 1))]) hq
        have hR6 := s6 _ _ hR5
        refine ⟨R, ys, _, rfl, rfl, hR6, (by rw [l4]; show j < 2 ^ 24; omega), ?_⟩
        refine ⟨ys ++ [V.ref q], _, rfl, same_up ((s4.trans s5).trans s6) hR0, upd_same, ?_, Tns.up ((t4.same s5).same s6) hR6, by rw [List.length_append, l4]; rfl, fun _ => ?_⟩
        · rw [upd_ne (Ne.symm RB)]
          exact s6 _ _ (s5 _ _ hB4)
        · refine ⟨q, (tnx (l.turn lo hi) (k - j)).n, (tnx (l.turn lo hi) (k - j)).a, (tnx (l.turn lo hi) (k - j)).b, (tnx (l.turn lo hi) (k - j)).c, by rw [List.getLast?_append]; rfl, ?_⟩
          have : q ≠ R := fun e => by rw [e, hR5] at hq; cases hq
          rw [upd_ne this]
          exact upd_same
      · subst e
        rw [List.length_reverse, tn.len] at r4 l4
        obtain ⟨q, n, a', b', c', e1, e2⟩ := r4 (by omega)
        refine ⟨_, rfl, R, ys, rfl, SqL.of hR4, fun W hW => ?_⟩
        refine .inl ⟨W, ys.reverse, rfl, SqL.of upd_same, fun p hp => ?_⟩
        have s5 := same_of_upd (o := .lst ys.reverse) hW
        have s6 := same_of_upd (o := .tup ys.reverse) hp
        obtain ⟨zs, ez⟩ : ∃ zs, ys = zs ++ [V.ref q] := by
          obtain ⟨zs, z, rfl⟩ : ∃ zs z, ys = zs ++ [z] := by
            refine ⟨ys.dropLast, ys.getLast (by intro h; rw [h] at l4; simp at l4), ?_⟩
            exact (List.dropLast_concat_getLast _).symm
          rw [List.getLast?_append] at e1
          have : z = V.ref q := Option.some.inj e1
          exact ⟨zs, by rw [this]⟩
        have er : ys.reverse = .ref q :: zs.reverse := by
          rw [ez, List.reverse_append]; rfl
        have eu : upSum (l.turn lo hi) k (k + 1) = (l.turn lo hi).sum := by
          show (tnx (l.turn lo hi) (k - k)).sum = _
          rw [Nat.sub_self]; rfl
        rw [eu] at e2
        exact hQ _ p q zs.reverse _ _ _ _ ((s4.trans s5).trans s6) (by rw [upd_same, er]) (s6 _ _ (s5 _ _ e2))
end
end K45
/-! ## W8 -/
namespace K45
open PySem PySem.Spec PyProof.Rows L2
structure StB (st : List Line) : Prop where
  len : st.length ≤ 4
  ln : ∀ l ∈ st, LnB l
def PcAt (H : Hp) (a : Addr) (q : Piece) : Prop := ∃ l u, H a = some (.tup [.int q.lo, .int q.hi, .ref l, .ref u]) ∧ StAt H l q.lower ∧ StAt H u q.upper
theorem PcAt.same {H H' : Hp} {a : Addr} {q : Piece} (s : Same H H') (h : PcAt H a q) : PcAt H' a q := by
  obtain ⟨l, u, h1, h2, h3⟩ := h
  exact ⟨l, u, s _ _ h1, h2.same s, h3.same s⟩
structure PcB (q : Piece) : Prop where
  l0 : 0 ≤ q.lo
  lh : q.lo < q.hi
  h1 : q.hi ≤ 256
  lb : StB q.lower
  ub : StB q.upper
theorem turn_sum (l : Line) (lo hi : Int) : (l.turn lo hi).sum = fs l.a (l.b + l.a * lo) l.c (hi - lo).toNat := by
  unfold Turn.sum Line.turn
  have : (max 0 (hi - lo)).toNat = (hi - lo).toNat := by omega
  show fs l.a (l.b + l.a * lo) l.c (max 0 (hi - lo)).toNat = _
  rw [this]
/-- a list of pieces -/
def PsAt (H : Hp) (a : Addr) (qs : List Piece) : Prop := ∃ as : List Addr, H a = some (.lst (as.map V.ref)) ∧ Paired (PcAt H) as qs
theorem PsAt.same {H H' : Hp} {a : Addr} {qs : List Piece} (s : Same H H') (h : PsAt H a qs) : PsAt H' a qs := by
  obtain ⟨as, h1, h2⟩ := h
  exact ⟨as, s _ _ h1, Paired.mapP h2 fun x l h => PcAt.same s h⟩
theorem Paired.get {α β : Type} {F : α → β → Prop} : ∀ {l₁ : List α} {l₂ : List β} {i : Nat} {a : α}, Paired F l₁ l₂ → l₁[i]? = some a → ∃ b, l₂[i]? = some b ∧ F a b
  | _, _, 0, a, .cons h _, e => by
    cases Option.some.inj e
    exact ⟨_, rfl, h⟩
  | _, _, i + 1, a, .cons _ t, e => by
    obtain ⟨b, e1, e2⟩ := Paired.get t (show _ = some a from e)
    exact ⟨b, e1, e2⟩
theorem Paired.len {α β : Type} {F : α → β → Prop} : ∀ {l₁ : List α} {l₂ : List β}, Paired F l₁ l₂ → l₁.length = l₂.length
  | _, _, .nil => rfl
  | _, _, .cons _ t => by
    show _ + 1 = _ + 1
    rw [Paired.len t]
theorem map_get {α β : Type} {f : α → β} {l : List α} {i : Nat} {b : β} (h : (l.map f)[i]? = some b) : ∃ a, l[i]? = some a ∧ f a = b := by
  rw [List.getElem?_map] at h
  cases e : l[i]? with
  | none => rw [e] at h; cases h
  | some a =>
    rw [e] at h
    exact ⟨a, rfl, Option.some.inj h⟩
theorem take_next {α : Type} {l : List α} {i : Nat} {a : α} (h : l[i]? = some a) : l.take (i + 1) = l.take i ++ [a] := by
  rw [List.take_add_one, h]; rfl
theorem mem_of_get {α : Type} {l : List α} {i : Nat} {a : α} (h : l[i]? = some a) : a ∈ l := List.mem_of_getElem? h
instance (r : Row) : Decidable r.Sound := decidable_of_iff (¬ above r.run r.val ∧ ¬ above r.val r.top) ⟨fun h => ⟨h.1, h.2⟩, fun h => ⟨h.lo, h.hi⟩⟩
theorem at0 {α : Type} (x : α) (r : List α) : atI (x :: r) 0 = some x := by
  unfold atI ixN
  rw [if_pos (Int.le_refl 0), if_pos (show (0 : Int) < ((x :: r).length : Nat) by rw [List.length_cons]; omega)]
  rfl
/-! ### promises -/
def spStair : Sp := fun vs H Q _ => ∃ (a : Addr) (st : List Line) (lo hi : Int), vs = [.ref a, .int lo, .int hi] ∧ StAt H a st ∧ StB st ∧ 0 ≤ lo ∧ lo ≤ 1000 ∧ hi - lo ≤ 256 ∧ ∀ H', Same H H' → Q (.int (sumStair st lo hi)) H'
def spSteps : Sp := fun vs H Q _ => ∃ (a b : Addr) (s1 s2 : List Line) (lo hi : Int), vs = [.ref a, .ref b, .int lo, .int hi] ∧ StAt H a s1 ∧ StAt H b s2 ∧ StB s1 ∧ StB s2 ∧ 0 ≤ lo ∧ lo ≤ 1000 ∧ hi - lo ≤ 256 ∧ ∀ H', Same H H' → Q (.int (sumStair s2 lo hi - sumStair s1 lo hi)) H'
def spCountIn : Sp := fun vs H Q _ => ∃ (a : Addr) (qs : List Piece), vs = [.ref a] ∧ PsAt H a qs ∧ (∀ q ∈ qs, PcB q) ∧ qs.length ≤ 1000 ∧ ∀ H', Same H H' → Q (.int (countIn qs)) H'
def spPlace : Sp := fun vs H Q _ => ∃ (a : Addr) (q : Piece) (left : Int), vs = [.ref a, .int left] ∧ PcAt H a q ∧ PcB q ∧ 0 ≤ left ∧ left < q.steps q.lo q.hi ∧
  ∀ H' x, Same H H' → q.lo ≤ x → x < q.hi → rsum q.diff q.lo x ≤ left → left < rsum q.diff q.lo (x + 1) → Q (.int x) H'
/-- what is_whole tells of a value -/
inductive WhV (K : PySem.W.Frag) (H : Hp) : V → Bool → Prop where
  | int (i : Int) : WhV K H (.int i) true
  | bl (b : Bool) : WhV K H (.bl b) false
  | oth {x : V} {T : String} (t : TyX K H x (.type T)) (h1 : kitB T "int" = some false) (h2 : kitB T "bool" = some false) : WhV K H x false
def spWhole (K : PySem.W.Frag) : Sp := fun vs H Q _ => ∃ (x : V) (b : Bool), vs = [x] ∧ WhV K H x b ∧ Q (.bl b) H
def spSound : Sp := fun vs H Q _ => ∃ (a : Addr) (r : Row), vs = [.ref a] ∧ RowAt H a r ∧ RowB r ∧ ∀ H', Same H H' → Q (.bl (decide r.Sound)) H'
def spRunKind (mg : Str → Option Value) : Sp := fun vs H Q _ => ∃ (a : Addr) (r : Row), vs = [.ref a] ∧ RowAt H a r ∧ ∀ f, mg (kindN (if r.h = 0 then .read else .up)) = some (.ref f) → Q (.ref f) H
section
variable {P : Program} {w : World} {K : PySem.W.Frag} {mg : Str → Option Value} {base : Heap}
theorem sc_sum_of : FnScope ["line", "low", "high"] ["line", "low", "high"] (defScope s_sum_of) := ⟨rfl, rfl, rfl, by decide +kernel, rfl, by decide +kernel, by decide +kernel⟩
theorem cl_sum_of (D : DefAt K mg "sum_of" s_sum_of) (c_sum_rows : Cl P w K mg base CX0 3 "sum_rows" spRows) : Cl P w K mg base CX0 4 "sum_of" spSum := by
  refine cl_of D (fun _ _ _ _ _ _ us hl => match us, hl with | [_, _, _], _ => rfl) sc_sum_of (fun vs H Q E h => ?_) (fun f cdv A outer s H vs Q E hr h => ?_)
  · obtain ⟨a, l, x, y, rfl, _⟩ := h
    rfl
  · obtain ⟨a, l, lo, hi, rfl, hl, bl, x0, x1, hn, hQ⟩ := h
    refine ⟨_, PSs.nox (pss_one (ps_ret (pe_ix ix_tup (pe_ix ix_tup (pe_cl c_sum_rows hr (by decide) pass0 (pa_cons (pv 0) (pa_cons (pv 1) (pa_cons (pv 2) pa_nil)))) pe_int (fun _ _ => rfl)) pe_int (fun _ _ => rfl)))), ?_⟩
    refine ⟨_, rfl, _, rfl, _, rfl, a, l, lo, hi, rfl, hl, bl, x0, x1, hn, fun H' p q rest n a' b' c' s' hp hq => ?_⟩
    refine ⟨p, _, 0, .ref q, rfl, rfl, SqT.of hp, at0 _ _, ?_⟩
    exact ⟨q, _, 4, .int (l.turn lo hi).sum, rfl, rfl, SqT.of hq, rfl, hQ H' s'⟩
theorem sc_sum_of_stair : FnScope ["stair", "low", "high", "line"] ["stair", "low", "high"] (defScope s_sum_of_stair) := ⟨rfl, rfl, rfl, by decide +kernel, rfl, by decide +kernel, by decide +kernel⟩
theorem cl_sum_of_stair (D : DefAt K mg "sum_of_stair" s_sum_of_stair) (g_sum : mg "sum" = none) (c_sum_of : Cl P w K mg base CX0 4 "sum_of" spSum) : Cl P w K mg base CX0 5 "sum_of_stair" spStair := by
  refine cl_of D (fun _ _ _ _ _ _ us hl => match us, hl with | [_, _, _], _ => rfl) sc_sum_of_stair (fun vs H Q E h => ?_) (fun f cdv A outer s H vs Q E hr h => ?_)
  · obtain ⟨a, l, x, y, rfl, _⟩ := h
    rfl
  · obtain ⟨a, st, lo, hi, rfl, hst, bs, x0, x1, hn, hQ⟩ := h
    refine ⟨_, PSs.nox (pss_one (ps_ret (pe_callB (cr_sum rfl) (by rfl) g_sum (by decide +kernel) (pa_cons (pe_lc (own := [("line", 3)]) rfl sc_sum_of_stair.nd (pi_tup (pv 0)) (blkOk_by (N := ["stair", "low", "high", "line"]) (sc := defScope s_sum_of_stair) (by decide +kernel)) (fun _ _ _ _ _ => by exact (pg_name (i := 3) sc_sum_of_stair.nd rfl (Or.inl rfl))) (fun _ _ _ _ _ => pts_nil) (fun _ _ _ _ _ => (pe_cl c_sum_of hr (by decide) pass0 (pa_cons (pv 3) (pa_cons (pv 1) (pa_cons (pv 2) pa_nil)))))) pa_nil)))), ?_⟩
    obtain ⟨as, has, pr⟩ := hst
    have ln := Paired.len pr
    refine ⟨_, rfl, a, rfl, ⟨_, SqT.of has⟩, fun D hD => lc_tup (xs := as.map V.ref)
        (fun i H2 => Same H H2 ∧ H2 D = some (.lst (((st.take i).map fun l => fs l.a (l.b + l.a * lo) l.c (hi - lo).toNat).map V.int))) ⟨same_of_upd hD, upd_same⟩
        (fun i H2 hi ⟨s2, l2⟩ => SqT.of (s2 _ _ has)) (fun i x H2 hx ⟨s2, l2⟩ => ?_) (fun H2 ⟨s2, l2⟩ => ?_)⟩
    · obtain ⟨r, hr, rfl⟩ := map_get hx
      obtain ⟨l, hl, hla⟩ := Paired.get pr hr
      refine ⟨rfl, ?_⟩
      refine yes_it (iteT ?_)
      have hi4 := (List.getElem?_eq_some_iff.mp hl).1
      have b4 := bs.len
      refine ⟨_, rfl, _, rfl, _, rfl, r, l, lo, hi, rfl, s2 _ _ hla, bs.ln l (mem_of_get hl), x0, x1, hn, fun H4 s4 => ⟨_, s4 _ _ l2, ?_, ?_⟩⟩
      · rw [List.length_map, List.length_map, List.length_take]
        show _ < 2 ^ 24
        omega
      · refine ⟨same_up (s2.trans s4) hD, ?_⟩
        rw [upd_same, take_next hl, List.map_append, List.map_append, turn_sum]
        rfl
    · refine ⟨_, _, rfl, SqL.of l2, ?_⟩
      have e : st.take (as.map V.ref).length = st := by
        rw [List.length_map, ln, List.take_length]
      rw [e]
      exact hQ H2 s2
theorem sc_steps_between : FnScope ["lower", "upper", "low", "high"] ["lower", "upper", "low", "high"] (defScope s_steps_between) := ⟨rfl, rfl, rfl, by decide +kernel, rfl, by decide +kernel, by decide +kernel⟩
theorem cl_steps_between (D : DefAt K mg "steps_between" s_steps_between) (c_sum_of_stair : Cl P w K mg base CX0 5 "sum_of_stair" spStair) : Cl P w K mg base CX0 6 "steps_between" spSteps := by
  refine cl_of D (fun _ _ _ _ _ _ us hl => match us, hl with | [_, _, _, _], _ => rfl) sc_steps_between (fun vs H Q E h => ?_) (fun f cdv A outer s H vs Q E hr h => ?_)
  · obtain ⟨a, b, l, m, x, y, rfl, _⟩ := h
    rfl
  · obtain ⟨a, b, s1, s2, lo, hi, rfl, h1, h2, b1, b2, x0, x1, hn, hQ⟩ := h
    refine ⟨_, PSs.nox (pss_one (ps_ret (pe_op op_sub (pe_cl c_sum_of_stair hr (by decide) pass0 (pa_cons (pv 1) (pa_cons (pv 2) (pa_cons (pv 3) pa_nil)))) (pe_cl c_sum_of_stair hr (by decide) pass0 (pa_cons (pv 0) (pa_cons (pv 2) (pa_cons (pv 3) pa_nil))))))), ?_⟩
    refine ⟨_, rfl, _, rfl, _, rfl, b, s2, lo, hi, rfl, h2, b2, x0, x1, hn, fun H1 k1 => ?_⟩
    refine ⟨_, rfl, _, rfl, _, rfl, a, s1, lo, hi, rfl, h1.same k1, b1, x0, x1, hn, fun H2 k2 => ?_⟩
    exact ⟨_, _, rfl, rfl, hQ H2 (k1.trans k2)⟩
theorem sc_count_in : FnScope ["found", "low", "high", "lower", "upper"] ["found"] (defScope s_count_in) := ⟨rfl, rfl, rfl, by decide +kernel, rfl, by decide +kernel, by decide +kernel⟩
theorem cl_count_in (D : DefAt K mg "count_in" s_count_in) (g_sum : mg "sum" = none) (c_steps_between : Cl P w K mg base CX0 6 "steps_between" spSteps) : Cl P w K mg base CX0 7 "count_in" spCountIn := by
  refine cl_of D (fun _ _ _ _ _ _ us hl => match us, hl with | [_], _ => rfl) sc_count_in (fun vs H Q E h => ?_) (fun f cdv A outer s H vs Q E hr h => ?_)
  · obtain ⟨a, l, rfl, _⟩ := h
    rfl
  · obtain ⟨a, qs, rfl, hq, bq, len, hQ⟩ := h
    refine ⟨_, PSs.nox (pss_one (ps_ret (pe_callB (cr_sum rfl) (by rfl) g_sum (by decide +kernel) (pa_cons (pe_lc (g := gTup K 4 (gCons (gName 1) (gCons (gName 2) (gCons (gName 3) (gCons (gName 4) gNil))))) (own := [("low", 1), ("high", 2), ("lower", 3), ("upper", 4)]) rfl sc_count_in.nd (pi_list (pv 0)) (blkOk_by (N := ["found", "low", "high", "lower", "upper"]) (sc := defScope s_count_in) (by decide +kernel)) (fun _ _ _ _ _ => by exact (pg_tup rfl (pgs_cons (pg_name (i := 1) sc_count_in.nd rfl (Or.inl rfl)) (pgs_cons (pg_name (i := 2) sc_count_in.nd rfl (Or.inl rfl)) (pgs_cons (pg_name (i := 3) sc_count_in.nd rfl (Or.inl rfl)) (pgs_cons (pg_name (i := 4) sc_count_in.nd rfl (Or.inl rfl)) pgs_nil)))))) (fun _ _ _ _ _ => pts_nil) (fun _ _ _ _ _ => (pe_cl c_steps_between hr (by decide) pass0 (pa_cons (pv 3) (pa_cons (pv 4) (pa_cons (pv 1) (pa_cons (pv 2) pa_nil))))))) pa_nil)))), ?_⟩
    obtain ⟨as, has, pr⟩ := hq
    have ln := Paired.len pr
    refine ⟨_, rfl, a, rfl, ⟨_, SqL.of has⟩, fun D hD => lc_list (xs := as.map V.ref)
        (fun i H2 => Same H H2 ∧ H2 D = some (.lst (((qs.take i).map fun q => q.steps q.lo q.hi).map V.int))) ⟨same_of_upd hD, upd_same⟩
        (fun i H2 hi ⟨s2, l2⟩ => SqL.of (s2 _ _ has)) (fun i x H2 hx ⟨s2, l2⟩ => ?_) (fun H2 ⟨s2, l2⟩ => ?_)⟩
    · obtain ⟨r, hr, rfl⟩ := map_get hx
      obtain ⟨q, hq, hqa⟩ := Paired.get pr hr
      obtain ⟨l, u, z1, z2, z3⟩ := hqa.same s2
      have hi4 := (List.getElem?_eq_some_iff.mp hq).1
      obtain ⟨l0, lh, h1, lb, ub⟩ := bq q (mem_of_get hq)
      refine ⟨r, _, rfl, SqT.of z1, rfl, _, _, rfl, _, _, rfl, _, _, rfl, _, _, rfl, rfl, rfl, ?_⟩
      refine yes_it (iteT ?_)
      refine ⟨_, rfl, _, rfl, _, rfl, _, rfl, l, u, q.lower, q.upper, q.lo, q.hi, rfl, z2, z3, lb, ub, l0, by omega, by omega, fun H4 s4 => ⟨_, s4 _ _ l2, ?_, ?_⟩⟩
      · rw [List.length_map, List.length_map, List.length_take]
        show _ < 2 ^ 24
        omega
      · refine ⟨same_up (s2.trans s4) hD, ?_⟩
        rw [upd_same, take_next hq, List.map_append, List.map_append]
        rfl
    · refine ⟨_, _, rfl, SqL.of l2, ?_⟩
      have e : qs.take (as.map V.ref).length = qs := by
        rw [List.length_map, ln, List.take_length]
      rw [e]
      exact hQ H2 s2
theorem sc_place_in : FnScope ["piece", "index", "low", "high", "lower", "upper", "least", "most", "middle"] ["piece", "index"] (defScope s_place_in) := ⟨rfl, rfl, rfl, by decide +kernel, rfl, by decide +kernel, by decide +kernel⟩
theorem cl_place_in (D : DefAt K mg "place_in" s_place_in) (c_steps_between : Cl P w K mg base CX0 6 "steps_between" spSteps) : Cl P w K mg base CX0 7 "place_in" spPlace := by
  refine cl_of D (fun _ _ _ _ _ _ us hl => match us, hl with | [_, _], _ => rfl) sc_place_in (fun vs H Q E h => ?_) (fun f cdv A outer s H vs Q E hr h => ?_)
  · obtain ⟨a, l, x, rfl, _⟩ := h
    rfl
  · obtain ⟨a, q, left, rfl, hq, bq, l0', l1', hQ⟩ := h
    refine ⟨_, PSs.nox (pss_cons (ps_asg (pv 0) (pg_tup rfl (pgs_cons (pg_name (i := 2) sc_place_in.nd rfl (Or.inl rfl)) (pgs_cons (pg_name (i := 3) sc_place_in.nd rfl (Or.inl rfl)) (pgs_cons (pg_name (i := 4) sc_place_in.nd rfl (Or.inl rfl)) (pgs_cons (pg_name (i := 5) sc_place_in.nd rfl (Or.inl rfl)) pgs_nil))))))
      (pss_cons (ps_par (i := 6) (j := 7) rfl sc_place_in.nd rfl rfl (by decide) rfl rfl (pa_cons (pv 2) (pa_cons (pe_op op_sub (pv 3) pe_int) pa_nil)) (by rfl))
      (pss_cons (ps_while PassesOwn.never (pt_cmpR op_lt (pv 6) (pv 7) (nomark _))
        (pss_cons (ps_set (i := 8) sc_place_in.nd rfl (Or.inl rfl) (pe_op op_fdiv (pe_op op_add (pv 6) (pv 7)) pe_int))
        (pss_one (ps_if (pt_cmpR op_gt (pe_cl c_steps_between hr (by decide) pass0 (pa_cons (pv 4) (pa_cons (pv 5) (pa_cons (pv 2) (pa_cons (pe_op op_add (pv 8) pe_int) pa_nil))))) (pv 1) (nomark _))
          (pss_one (ps_set (i := 7) sc_place_in.nd rfl (Or.inl rfl) (pv 8)))
          (pss_one (ps_set (i := 6) sc_place_in.nd rfl (Or.inl rfl) (pe_op op_add (pv 8) pe_int)))))))
      (pss_one (ps_ret (pv 6)))))), ?_⟩
    obtain ⟨l, u, z1, z2, z3⟩ := hq
    obtain ⟨l0, lh, h1, lb, ub⟩ := bq
    rw [Piece.steps_eq] at l1'
    refine ⟨_, rfl, a, _, rfl, SqT.of z1, rfl, _, _, rfl, _, _, rfl, _, _, rfl, _, _, rfl, rfl, ?_⟩
    refine ⟨_, rfl, _, rfl, _, _, rfl, rfl, _, _, rfl, ?_⟩
    refine ⟨fun m σ H' => ∃ least most v, σ = [some (.ref a), some (.int left), some (.int q.lo), some (.int q.hi), some (.ref l), some (.ref u), some (.int least), some (.int most), v] ∧ Same H H' ∧
        q.lo ≤ least ∧ least ≤ most ∧ most ≤ q.hi - 1 ∧ rsum q.diff q.lo least ≤ left ∧ left < rsum q.diff q.lo (most + 1) ∧ m = (most - least).toNat,
      ⟨_, q.lo, q.hi - 1, _, rfl, fun _ _ h => h, Int.le_refl _, by omega, Int.le_refl _, ?_, ?_, rfl⟩, ?_⟩
    · rw [rsum_none _ (Int.le_refl _)]
      exact l0'
    · rw [show q.hi - 1 + 1 = q.hi by omega]
      exact l1'
    rintro m σ H' ⟨least, most, v, rfl, s1, i1, i2, i3, i4, i5, rfl⟩
    refine ⟨_, rfl, _, rfl, _, _, rfl, rfl, _, rfl, ?_⟩
    by_cases hlt : least < most
    · rw [decide_eq_true hlt]
      refine iteT ⟨_, fun _ _ h => h, ?_⟩
      refine ⟨_, rfl, _, rfl, _, _, rfl, rfl, _, _, rfl, rfl, ⟨by decide, by decide⟩, ?_⟩
      refine ⟨_, rfl, _, rfl, _, rfl, _, rfl, _, _, rfl, rfl, l, u, q.lower, q.upper, q.lo, (least + most) / 2 + 1, rfl, z2.same s1, z3.same s1, lb, ub, l0, by omega, by omega, fun H2 s2 => ?_⟩
      refine ⟨_, rfl, _, _, rfl, rfl, _, rfl, ?_⟩
      have e : sumStair q.upper q.lo ((least + most) / 2 + 1) - sumStair q.lower q.lo ((least + most) / 2 + 1) = rsum q.diff q.lo ((least + most) / 2 + 1) := Piece.steps_eq q _ _
      rw [e]
      by_cases hc : left < rsum q.diff q.lo ((least + most) / 2 + 1)
      · rw [decide_eq_true hc]
        refine iteT ⟨_, rfl, ?_⟩
        exact ⟨_, (show ((least + most) / 2 - least).toNat < (most - least).toNat by omega), _, _, _, rfl, s1.trans s2, i1, by omega, by omega, i4, hc, rfl⟩
      · rw [decide_eq_false hc]
        refine iteF ⟨_, rfl, _, _, rfl, rfl, ?_⟩
        exact ⟨_, (show (most - ((least + most) / 2 + 1)).toNat < (most - least).toNat by omega), _, _, _, rfl, s1.trans s2, by omega, by omega, i3, by omega, i5, rfl⟩
    · rw [decide_eq_false hlt]
      refine iteF ⟨_, rfl, ?_⟩
      have e : least = most := by omega
      subst e
      exact hQ H' least s1 i1 (by omega) i4 i5
theorem sc_is_whole : FnScope ["value"] ["value"] (defScope s_is_whole) := ⟨rfl, rfl, rfl, by decide +kernel, rfl, by decide +kernel, by decide +kernel⟩
theorem cl_is_whole (D : DefAt K mg "is_whole" s_is_whole) (g_isinstance : mg "isinstance" = none) (g_int : mg "int" = none) (g_bool : mg "bool" = none) : Cl P w K mg base CX0 1 "is_whole" (spWhole K) := by
  refine cl_of D (fun _ _ _ _ _ _ us hl => match us, hl with | [_], _ => rfl) sc_is_whole (fun vs H Q E h => ?_) (fun f cdv A outer s H vs Q E hr h => ?_)
  · obtain ⟨x, b, rfl, _⟩ := h
    rfl
  · obtain ⟨x, b, rfl, hw, hQ⟩ := h
    refine ⟨_, PSs.nox (pss_one (ps_ret (pe_and (pe_callB call_isi (by rfl) g_isinstance (by decide +kernel) (pa_cons (pv 0) (pa_cons (pe_bltn (v := .ty "int") (by rfl) g_int (by decide +kernel) rfl) pa_nil))) (pe_one (pe_not (pe_callB call_isi (by rfl) g_isinstance (by decide +kernel) (pa_cons (pv 0) (pa_cons (pe_bltn (v := .ty "bool") (by rfl) g_bool (by decide +kernel) rfl) pa_nil)))))))), ?_⟩
    cases hw with
    | int i =>
      refine ⟨_, rfl, _, _, _, _, true, rfl, .ty _, .base (.int i), kit_ty (by decide +kernel), _, rfl, ?_⟩
      refine iteT ⟨_, rfl, _, _, _, _, false, rfl, .ty _, .base (.int i), kit_ty (by decide +kernel), _, rfl, ?_⟩
      exact hQ
    | bl b =>
      refine ⟨_, rfl, _, _, _, _, true, rfl, .ty _, .base (.bl b), kit_ty (by decide +kernel), _, rfl, ?_⟩
      refine iteT ⟨_, rfl, _, _, _, _, true, rfl, .ty _, .base (.bl b), kit_ty (by decide +kernel), _, rfl, ?_⟩
      exact hQ
    | oth t h1 h2 =>
      refine ⟨_, rfl, _, _, _, _, false, rfl, .ty _, t, kit_ty h1, _, rfl, ?_⟩
      exact iteF hQ
theorem sc_is_sound : FnScope ["row", "value"] ["row"] (defScope s_is_sound) := ⟨rfl, rfl, rfl, by decide +kernel, rfl, by decide +kernel, by decide +kernel⟩
theorem cl_is_sound (D : DefAt K mg "is_sound" s_is_sound) (c_power_fraction : Cl P w K mg base CX0 2 "power_fraction" spPF) (c_is_above : Cl P w K mg base CX0 1 "is_above" spAbove) (c_run_slope : Cl P w K mg base CX0 2 "run_slope" spRun) (c_top_slope : Cl P w K mg base CX0 2 "top_slope" spTop) :
    Cl P w K mg base CX0 3 "is_sound" spSound := by
  refine cl_of D (fun _ _ _ _ _ _ us hl => match us, hl with | [_], _ => rfl) sc_is_sound (fun vs H Q E h => ?_) (fun f cdv A outer s H vs Q E hr h => ?_)
  · obtain ⟨a, r, rfl, _⟩ := h
    rfl
  · obtain ⟨a, r, rfl, ha, br, hQ⟩ := h
    refine ⟨_, PSs.nox (pss_cons (ps_set (i := 1) sc_is_sound.nd rfl (Or.inl rfl) (pe_cl c_power_fraction hr (by decide) pass0 (pa_cons (pe_ix ix_tup (pv 0) pe_int (fun _ _ => rfl)) pa_nil)))
      (pss_one (ps_ret (pe_and (pe_not (pe_cl c_is_above hr (by decide) pass0 (pa_cons (pe_cl c_run_slope hr (by decide) pass0 (pa_cons (pv 0) pa_nil)) (pa_cons (pv 1) pa_nil)))) (pe_one (pe_not (pe_cl c_is_above hr (by decide) pass0 (pa_cons (pv 1) (pa_cons (pe_cl c_top_slope hr (by decide) pass0 (pa_cons (pv 0) pa_nil)) pa_nil))))))))), ?_⟩
    refine ⟨_, rfl, a, _, 0, .int r.P, rfl, rfl, SqT.of ha, rfl, r.P, rfl, br.P0, br.P5, fun H1 v s1 hv => ?_⟩
    refine ⟨_, rfl, a, r, rfl, s1 _ _ ha, br, fun H2 p s2 hp => ?_⟩
    have hv2 : SlAt H2 v r.val := s2 _ _ hv
    refine ⟨_, rfl, p, v, r.run, r.val, rfl, hp, hv2, br.run_b, br.val_b, _, rfl, _, rfl, ?_⟩
    have s12 := s1.trans s2
    by_cases h1 : above r.run r.val
    · rw [decide_eq_true h1]
      refine iteF ?_
      have := hQ H2 s12
      rw [decide_eq_false (fun z : r.Sound => z.lo h1)] at this
      exact this
    · rw [decide_eq_false h1]
      refine iteT ⟨_, rfl, _, rfl, a, r, rfl, s12 _ _ ha, br, fun H3 u s3 hu => ?_⟩
      refine ⟨v, u, r.val, r.top, rfl, s3 _ _ hv2, hu, br.val_b, br.top_b, _, rfl, ?_⟩
      have := hQ H3 (s12.trans s3)
      by_cases h2 : above r.val r.top
      · rw [decide_eq_true h2]
        rw [decide_eq_false (fun z : r.Sound => z.hi h2)] at this
        exact this
      · rw [decide_eq_false h2]
        rw [decide_eq_true (show r.Sound from ⟨h1, h2⟩)] at this
        exact this
theorem sc_run_kind : FnScope ["row"] ["row"] (defScope s_run_kind) := ⟨rfl, rfl, rfl, by decide +kernel, rfl, by decide +kernel, by decide +kernel⟩
theorem cl_run_kind (D : DefAt K mg "run_kind" s_run_kind) (KA : KindsAt P w K mg base) : Cl P w K mg base CX0 1 "run_kind" (spRunKind mg) := by
  refine cl_of D (fun _ _ _ _ _ _ us hl => match us, hl with | [_], _ => rfl) sc_run_kind (fun vs H Q E h => ?_) (fun f cdv A outer s H vs Q E hr h => ?_)
  · obtain ⟨a, r, rfl, _⟩ := h
    rfl
  · obtain ⟨a, r, rfl, ha, hQ⟩ := h
    obtain ⟨fa_read_stair, _, _, _, g_read_stair, _, _⟩ := (KA.cl .read).ex
    obtain ⟨fa_up_stair, _, _, _, g_up_stair, _, _⟩ := (KA.cl .up).ex
    refine ⟨_, PSs.nox (pss_one (ps_ret (pe_ifExp (pt_cmpR op_eq (pe_ix ix_tup (pv 0) pe_int (fun _ _ => rfl)) pe_int (nomark _)) (pe_glob (v := .ref fa_read_stair) (by rfl) g_read_stair rfl) (pe_glob (v := .ref fa_up_stair) (by rfl) g_up_stair rfl)))), ?_⟩
    refine ⟨_, rfl, a, _, 3, .int r.h, rfl, rfl, SqT.of ha, rfl, rfl, _, rfl, ?_⟩
    by_cases h0 : r.h = 0
    · rw [decide_eq_true (show (V.int r.h = V.int 0) by rw [h0])]
      refine iteT ?_
      rw [if_pos h0] at hQ
      exact hQ _ g_read_stair
    · rw [decide_eq_false (show ¬ (V.int r.h = V.int 0) from fun z => h0 (V.int.inj z))]
      refine iteF ?_
      rw [if_neg h0] at hQ
      exact hQ _ g_up_stair
end
end K45
/-! ## G1 -/
namespace K45
open PySem PySem.Spec PyProof.Rows L2
/-! ### a sleeping generator's state is left as it is by a run that does not wake it -/
def deadK : Resume → Sem PySem.Fin := fun _ => .unsupported "asleep"
def dead : GenState → GenState
  | .suspended _ l c p fs cl => .suspended deadK l c p fs cl
  | x => x
def Susp : GenState → Prop
  | .suspended .. => True
  | _ => False
def gfs : GenState → List Frame
  | .suspended _ _ _ _ fs _ => fs
  | _ => []
theorem dead_seen (x : GenState) : (dead x).seen = x.seen := by cases x <;> rfl
theorem dead_bare (x : GenState) : (dead x).bare = x.bare := by cases x <;> rfl
theorem no_run {M : Model} {Γ : PySem.Ctx} {p : Pos} {w : String} {fs : List Frame} {s s' : Shared} {e : End} (h : Runs M Γ p (.unsupported w) fs s e s') : False := by
  cases h with
  | segRet h1 _ => cases h1
  | segGen h1 _ => cases h1
  | segSuspOut _ h1 => cases h1
  | segSuspGen _ h1 _ _ => cases h1
def NoF (R : Nat → Option GenState) : Frame → Prop
  | .gen g .. => R g = none
  | _ => True
def NoG (R : Nat → Option GenState) (fs : List Frame) : Prop := ∀ F ∈ fs, NoF R F
def EndG (R : Nat → Option GenState) : End → Prop
  | .ret _ => True
  | .susp _ _ _ _ _ _ fs => NoG R fs
structure Slp (R : Nat → Option GenState) (G : Array GenState) : Prop where
  dd : ∀ j x, R j = some x → G[j]? = some (dead x)
  sp : ∀ j x, R j = some x → Susp x
  fr : ∀ j y, R j = none → G[j]? = some y → NoG R (gfs y)
def swp (R : Nat → Option GenState) (G : Array GenState) : Array GenState := G.mapIdx fun j y => (R j).getD y
def Sw (R : Nat → Option GenState) (s : Shared) : Shared := { s with gens := swp R s.gens }
section
variable {R : Nat → Option GenState} {G : Array GenState}
theorem NoG.nil : NoG R [] := fun _ h => by simp at h
theorem NoG.append {a b : List Frame} (h : NoG R a) (k : NoG R b) : NoG R (a ++ b) := fun F hF => (List.mem_append.mp hF).elim (h F) (k F)
theorem NoG.tail {F : Frame} {fs : List Frame} (h : NoG R (F :: fs)) : NoG R fs := fun x hx => h x (List.mem_cons_of_mem _ hx)
theorem NoG.head {F : Frame} {fs : List Frame} (h : NoG R (F :: fs)) : NoF R F := h F List.mem_cons_self
theorem Slp.lt (h : Slp R G) {j : Nat} {x : GenState} (e : R j = some x) : j < G.size := (Array.getElem?_eq_some_iff.mp (h.dd j x e)).1
theorem swp_size : (swp R G).size = G.size := by unfold swp; simp
theorem swp_get (j : Nat) : (swp R G)[j]? = (G[j]?).map fun y => (R j).getD y := by unfold swp; simp
theorem swp_none {j : Nat} {y : GenState} (h : R j = none) (e : G[j]? = some y) : (swp R G)[j]? = some y := by
  rw [swp_get, e, h]; rfl
theorem swp_some {j : Nat} {x y : GenState} (h : R j = some x) (e : G[j]? = some y) : (swp R G)[j]? = some x := by
  rw [swp_get, e, h]; rfl
theorem Slp.push (h : Slp R G) (c : Code) : Slp R (G.push (.fresh c)) where
  dd := fun j x e => by
    rw [Array.getElem?_push_lt (h.lt e)]
    have := h.dd j x e
    rw [Array.getElem?_eq_getElem (h.lt e)] at this
    exact this
  sp := h.sp
  fr := fun j y e k => by
    rw [Array.getElem?_push] at k
    split at k
    · cases k
      exact NoG.nil
    · exact h.fr j y e k
theorem swp_push (h : Slp R G) (y : GenState) : swp R (G.push y) = (swp R G).push y := by
  have hn : R G.size = none := by
    cases e : R G.size with
    | none => rfl
    | some x => exact absurd (h.lt e) (Nat.lt_irrefl _)
  refine Array.ext_getElem? fun j => ?_
  rw [swp_get, Array.getElem?_push, Array.getElem?_push, swp_size]
  split
  · rename_i e
    rw [e, hn]; rfl
  · rw [swp_get]
theorem Slp.set (h : Slp R G) {j : Nat} {y : GenState} (e : R j = none) (f : NoG R (gfs y)) : Slp R (G.setIfInBounds j y) where
  dd := fun i x k => by
    have : j ≠ i := fun z => by rw [z] at e; rw [e] at k; cases k
    rw [Array.getElem?_setIfInBounds_ne this]
    exact h.dd i x k
  sp := h.sp
  fr := fun i z k q => by
    by_cases c : j = i
    · subst c
      rw [Array.getElem?_setIfInBounds] at q
      simp only [if_true] at q
      split at q
      · cases q; exact f
      · cases q
    · rw [Array.getElem?_setIfInBounds_ne c] at q
      exact h.fr i z k q
theorem swp_set {j : Nat} {y : GenState} (e : R j = none) : swp R (G.setIfInBounds j y) = (swp R G).setIfInBounds j y := by
  refine Array.ext_getElem? fun i => ?_
  rw [swp_get]
  by_cases c : j = i
  · subst c
    rw [Array.getElem?_setIfInBounds, Array.getElem?_setIfInBounds, swp_size]
    simp only [if_true]
    split
    · rw [e]; rfl
    · rfl
  · rw [Array.getElem?_setIfInBounds_ne c, Array.getElem?_setIfInBounds_ne c, swp_get]
theorem sw_set {s : Shared} {j : Nat} {y : GenState} (e : R j = none) : Sw R (s.setGen j y) = (Sw R s).setGen j y := by
  unfold Sw Shared.setGen
  rw [swp_set e]
theorem split_no : ∀ {fs pre rest : List Frame} {b : Nat × (GenResult → Sem PySem.Fin) × Code × Pos}, splitAtGen fs = some (pre, b, rest) → NoG R fs → NoG R pre ∧ R b.1 = none ∧ NoG R rest := by
  intro fs
  induction fs with
  | nil => intro pre rest b h _; cases h
  | cons F fs ih =>
    intro pre rest b h k
    cases F with
    | gen g kk l c p =>
      have h' : some (([] : List Frame), (g, kk, c, p), fs) = some (pre, b, rest) := h
      cases h'
      exact ⟨NoG.nil, k.head, k.tail⟩
    | ret kk hd g l c p kp =>
      have h' : (splitAtGen fs).map (fun (fs, b, r) => (Frame.ret kk hd g l c p kp :: fs, b, r)) = some (pre, b, rest) := h
      cases e : splitAtGen fs with
      | none => rw [e] at h'; cases h'
      | some t =>
        obtain ⟨pre', b', rest'⟩ := t
        rw [e] at h'
        cases h'
        obtain ⟨q1, q2, q3⟩ := ih e k.tail
        exact ⟨fun x hx => (List.mem_cons.mp hx).elim (fun z => z ▸ trivial) (q1 x), q2, q3⟩
theorem EndG.gfs_of {e : End} (h : EndG R e) : NoG R (gfs e.genState) := by
  cases e with
  | ret r => exact NoG.nil
  | susp v g l k c p fs => exact h
theorem none_of_fresh (h : Slp R G) {j : Nat} {y : GenState} (e : G[j]? = some y) (n : ¬ Susp y) : R j = none := by
  cases k : R j with
  | none => rfl
  | some x =>
    have h1 := h.dd j x k
    have h2 := h.sp j x k
    rw [e] at h1
    obtain rfl := Option.some.inj h1
    cases x with
    | suspended _ _ _ _ _ _ => exact absurd trivial n
    | _ => exact h2.elim
end
theorem runs_sw {R : Nat → Option GenState} {M : Model} {Γ : PySem.Ctx} {p : Pos} {t : Sem PySem.Fin} {fs : List Frame} {s s' : Shared} {e : End} (h : Runs M Γ p t fs s e s') :
    NoG R fs → Slp R s.gens → EndG R e ∧ Slp R s'.gens ∧ Runs M Γ p t fs (Sw R s) e (Sw R s') := by
  induction h with
  | done => exact fun _ hs => ⟨trivial, hs, .done⟩
  | raise => exact fun _ hs => ⟨trivial, hs, .raise⟩
  | again q _ ih => exact fun hf hs => let ⟨a, b, c⟩ := ih hf hs; ⟨a, b, .again q c⟩
  | rule _ ih => exact fun hf hs => let ⟨a, b, c⟩ := ih hf hs; ⟨a, b, .rule c⟩
  | «at» _ ih => exact fun hf hs => let ⟨a, b, c⟩ := ih hf hs; ⟨a, b, .at c⟩
  | load q _ ih => exact fun hf hs => let ⟨a, b, c⟩ := ih hf hs; ⟨a, b, .load q c⟩
  | update q _ ih => exact fun hf hs => let ⟨a, b, c⟩ := ih hf hs; ⟨a, b, .update q c⟩
  | loadIfAlive _ ih => exact fun hf hs => let ⟨a, b, c⟩ := ih hf hs; ⟨a, b, .loadIfAlive c⟩
  | point _ ih => exact fun hf hs => let ⟨a, b, c⟩ := ih hf hs; ⟨a, b, .point c⟩
  | alloc _ ih => exact fun hf hs => let ⟨a, b, c⟩ := ih hf hs; ⟨a, b, .alloc c⟩
  | fresh _ ih => exact fun hf hs => let ⟨a, b, c⟩ := ih hf hs; ⟨a, b, .fresh c⟩
  | ask _ ih => exact fun hf hs => let ⟨a, b, c⟩ := ih hf hs; ⟨a, b, .ask c⟩
  | choose q _ ih => exact fun hf hs => let ⟨a, b, c⟩ := ih hf hs; ⟨a, b, .choose q c⟩
  | os _ ih => exact fun hf hs => let ⟨a, b, c⟩ := ih hf hs; ⟨a, b, .os c⟩
  | handled _ ih => exact fun hf hs => let ⟨a, b, c⟩ := ih hf hs; ⟨a, b, .handled c⟩
  | @genState g st Γ p k s e s' q _ ih =>
    intro hf hs
    obtain ⟨a, b, c⟩ := ih hf hs
    refine ⟨a, b, ?_⟩
    cases k' : R g with
    | none => exact .genState (swp_none k' q) c
    | some x =>
      have h1 := hs.dd g x k'
      rw [q] at h1
      obtain rfl := Option.some.inj h1
      rw [dead_seen] at c
      exact .genState (swp_some k' q) c
  | stack _ ih => exact fun hf hs => let ⟨a, b, c⟩ := ih hf hs; ⟨a, b, .stack c⟩
  | thread _ ih => exact fun hf hs => let ⟨a, b, c⟩ := ih hf hs; ⟨a, b, .thread c⟩
  | @newGen Γ p k s e s' c _ ih =>
    intro hf hs
    obtain ⟨a, b, d⟩ := ih hf (hs.push c)
    refine ⟨a, b, .newGen ?_⟩
    have e1 : (Sw R s).gens.size = s.gens.size := swp_size
    rw [e1]
    have e2 : ({ Sw R s with gens := (Sw R s).gens.push (.fresh c) } : Shared) = Sw R { s with gens := s.gens.push (.fresh c) } := by
      unfold Sw
      show ({ s with gens := (swp R s.gens).push (.fresh c) } : Shared) = { s with gens := swp R (s.gens.push (.fresh c)) }
      rw [swp_push hs]
    rw [e2]
    exact d
  | call _ _ ih1 ih2 =>
    intro hf hs
    obtain ⟨_, b1, c1⟩ := ih1 NoG.nil hs
    obtain ⟨a, b, c⟩ := ih2 hf b1
    exact ⟨a, b, .call c1 c⟩
  | callSusp _ ih =>
    intro hf hs
    obtain ⟨a, b, c⟩ := ih NoG.nil hs
    exact ⟨NoG.append a fun F hF => by rw [List.mem_singleton.mp hF]; trivial, b, .callSusp c⟩
  | yield => exact fun _ hs => ⟨NoG.nil, hs, .yield⟩
  | @resumeFresh Γ p g l k s c e₁ s₁ e s' q r1 qt r2 ih1 ih2 =>
    intro hf hs
    have hn := none_of_fresh hs q (fun z => z)
    obtain ⟨a1, b1, c1⟩ := ih1 NoG.nil (hs.set hn NoG.nil)
    obtain ⟨a, b, c⟩ := ih2 hf (b1.set hn a1.gfs_of)
    rw [sw_set hn] at c1 c
    exact ⟨a, b, .resumeFresh (swp_none hn q) c1 qt c⟩
  | @resumeSuspended Γ p g r l k s k₀ l₀ c₀ p₀ fs cl e₁ s₁ e s' q r1 qt r2 ih1 ih2 =>
    intro hf hs
    cases hn : R g with
    | some x =>
      have h1 := hs.dd g x hn
      have h2 := hs.sp g x hn
      rw [q] at h1
      have h3 := Option.some.inj h1
      cases x with
      | suspended k1 l1 c1 p1 f1 cl1 =>
        have h4 : GenState.suspended k₀ l₀ c₀ p₀ fs cl = .suspended deadK l1 c1 p1 f1 cl1 := h3
        cases h4
        exact (no_run r1).elim
      | _ => exact h2.elim
    | none =>
      obtain ⟨a1, b1, c1⟩ := ih1 (hs.fr g _ hn q) (hs.set hn NoG.nil)
      obtain ⟨a, b, c⟩ := ih2 hf (b1.set hn a1.gfs_of)
      rw [sw_set hn] at c1 c
      exact ⟨a, b, .resumeSuspended (swp_none hn q) c1 qt c⟩
  | resumeJustStarted q v _ ih => 
    intro hf hs
    obtain ⟨a, b, c⟩ := ih hf hs
    exact ⟨a, b, .resumeJustStarted (swp_none (none_of_fresh hs q (fun z => z)) q) v c⟩
  | resumeThrowFresh q _ ih =>
    intro hf hs
    have hn := none_of_fresh hs q (fun z => z)
    obtain ⟨a, b, c⟩ := ih hf (hs.set hn NoG.nil)
    rw [sw_set hn] at c
    exact ⟨a, b, .resumeThrowFresh (swp_none hn q) c⟩
  | resumeRunning q _ ih =>
    intro hf hs
    obtain ⟨a, b, c⟩ := ih hf hs
    exact ⟨a, b, .resumeRunning (swp_none (none_of_fresh hs q (fun z => z)) q) c⟩
  | resumeFinished q _ ih =>
    intro hf hs
    obtain ⟨a, b, c⟩ := ih hf hs
    exact ⟨a, b, .resumeFinished (swp_none (none_of_fresh hs q (fun z => z)) q) c⟩
  | segRet _ _ ih1 ih2 =>
    intro hf hs
    obtain ⟨_, b1, c1⟩ := ih1 NoG.nil hs
    obtain ⟨a, b, c⟩ := ih2 hf.tail b1
    exact ⟨a, b, .segRet c1 c⟩
  | segGen _ _ ih1 ih2 =>
    intro hf hs
    have hn := hf.head
    obtain ⟨_, b1, c1⟩ := ih1 NoG.nil hs
    obtain ⟨a, b, c⟩ := ih2 hf.tail (b1.set hn NoG.nil)
    rw [sw_set hn] at c
    exact ⟨a, b, .segGen c1 c⟩
  | segSuspOut q _ ih =>
    intro hf hs
    obtain ⟨a, b, c⟩ := ih NoG.nil hs
    exact ⟨NoG.append a hf, b, .segSuspOut q c⟩
  | segSuspGen q _ qt _ ih1 ih2 =>
    intro hf hs
    obtain ⟨n1, n2, n3⟩ := split_no q hf
    obtain ⟨a1, b1, c1⟩ := ih1 NoG.nil hs
    obtain ⟨a, b, c⟩ := ih2 n3 (b1.set n2 (NoG.append a1 n1))
    rw [sw_set n2] at c
    exact ⟨a, b, .segSuspGen q c1 qt c⟩
theorem returns_sw {R : Nat → Option GenState} {M : Model} {Γ : PySem.Ctx} {p : Pos} {s s' : Shared} {r : Result} (h : Returns M Γ p s r s') (hs : Slp R s.gens) : Slp R s'.gens ∧ Returns M Γ p (Sw R s) r (Sw R s') :=
  (runs_sw h NoG.nil hs).2
end K45
/-! ## G2 -/
namespace K45
open PySem PySem.Spec PyProof.Rows L2
open Sem (wp)
theorem wakes_sw {R : Nat → Option GenState} {M : Model} {Γ : PySem.Ctx} {p : Pos} {g : Nat} {r : Resume} {s s' : Shared} {res : GenResult} (h : Wakes M Γ p g r s res s') (hs : Slp R s.gens) :
    Slp R s'.gens ∧ Wakes M Γ p g r (Sw R s) res (Sw R s') := by
  unfold Wakes at h
  cases hn : R g with
  | some x =>
    have h1 := hs.dd g x hn
    have h2 := hs.sp g x hn
    rw [h1] at h
    cases x with
    | suspended k1 l1 c1 p1 f1 cl1 =>
      obtain ⟨e₁, s₁, hr, _⟩ := h
      exact (no_run hr).elim
    | _ => exact h2.elim
  | none =>
    cases hg : s.gens[g]? with
    | none =>
      rw [hg] at h
      exact h.elim
    | some y =>
      have hg' : (Sw R s).gens[g]? = some y := swp_none hn hg
      rw [hg] at h
      unfold Wakes
      rw [hg']
      cases y with
      | fresh c =>
        cases r with
        | throw x =>
          obtain ⟨h1, rfl⟩ := h
          exact ⟨hs.set hn NoG.nil, h1, sw_set hn⟩
        | send v =>
          cases v with
          | none =>
            obtain ⟨e₁, s₁, hr, q, h1, rfl⟩ := h
            obtain ⟨a1, b1, c1⟩ := runs_sw hr NoG.nil (hs.set hn NoG.nil)
            rw [sw_set hn] at c1
            exact ⟨b1.set hn a1.gfs_of, e₁, Sw R s₁, c1, q, h1, sw_set hn⟩
          | _ =>
            obtain ⟨h1, rfl⟩ := h
            exact ⟨hs, h1, rfl⟩
      | suspended k₀ l₀ c₀ p₀ fs cl =>
        obtain ⟨e₁, s₁, hr, q, h1, rfl⟩ := h
        obtain ⟨a1, b1, c1⟩ := runs_sw hr (hs.fr g _ hn hg) (hs.set hn NoG.nil)
        rw [sw_set hn] at c1
        exact ⟨b1.set hn a1.gfs_of, e₁, Sw R s₁, c1, q, h1, sw_set hn⟩
      | running =>
        obtain ⟨h1, rfl⟩ := h
        exact ⟨hs, h1, rfl⟩
      | finished =>
        obtain ⟨h1, rfl⟩ := h
        exact ⟨hs, h1, rfl⟩
theorem wp_sw {α : Type} (M : Model) (Γ : PySem.Ctx) (R : Nat → Option GenState) (t : Sem α) : ∀ (Q : α → Pos → Shared → Prop) (E : Value → Pos → Shared → Prop) (p : Pos) (s : Shared), Slp R s.gens → wp M Γ t Q E p s →
    wp M Γ t (fun a p' s' => ∃ s0, Slp R s0.gens ∧ s' = Sw R s0 ∧ Q a p' s0) (fun e p' s' => ∃ s0, Slp R s0.gens ∧ s' = Sw R s0 ∧ E e p' s0) p (Sw R s) := by
  induction t with
  | pure a => intro Q E p s hn h; exact ⟨s, hn, rfl, h⟩
  | raise e => intro Q E p s hn h; exact ⟨s, hn, rfl, h⟩
  | unsupported _ => intro Q E p s _ h; exact h
  | finish _ => intro Q E p s _ h; exact h
  | rule _ k ih => intro Q E p s hn h; exact ih () Q E p s hn h
  | «at» p' k ih => intro Q E p s hn h; exact ih () Q E p' s hn h
  | load a _ k ih => intro Q E p s hn h; obtain ⟨o, ho, h⟩ := h; exact ⟨o, ho, ih o Q E p s hn h⟩
  | update a _ f k ih => intro Q E p s hn h; exact ⟨h.1, ih () Q E p { s with heap := s.heap.update a f } hn h.2⟩
  | loadIfAlive a k ih => intro Q E p s hn h; exact ih _ Q E p s hn h
  | point _ k ih => intro Q E p s hn h; exact ih () Q E p s hn h
  | register _ _ => intro Q E p s _ h; exact h
  | alloc o k ih => intro Q E p s hn h; exact ih _ Q E p { s with heap := s.heap.push o } hn h
  | fresh k ih => intro Q E p s hn h; exact ih _ Q E p { s with toks := s.toks + 1 } hn h
  | ask k ih => intro Q E p s hn h; exact ih _ Q E p s hn h
  | choose src m k ih => intro Q E p s hn h; exact ⟨h.1, ih _ Q E p { s with drawn := s.drawn.bump src } hn h.2⟩
  | os q _ k ih => intro Q E p s hn h; exact ih _ Q E p { s with os := (Os.step s.os q).1 } hn h
  | call c hd _ _ k ih =>
    intro Q E p s hn h
    obtain ⟨r, s', hr, h⟩ := h
    obtain ⟨b, c⟩ := returns_sw hr hn
    exact ⟨r, Sw R s', c, ih r Q E p s' b h⟩
  | handled own k ih => intro Q E p s hn h; exact ih _ Q E p s hn h
  | genState g k ih =>
    intro Q E p s hn h
    obtain ⟨st, hs, h⟩ := h
    cases k' : R g with
    | none => exact ⟨st, swp_none k' hs, ih _ Q E p s hn h⟩
    | some x =>
      have h1 := hn.dd g x k'
      rw [hs] at h1
      obtain rfl := Option.some.inj h1
      rw [dead_seen] at h
      exact ⟨x, swp_some k' hs, ih _ Q E p s hn h⟩
  | newGen c k ih =>
    intro Q E p s hn h
    have := ih _ Q E p { s with gens := s.gens.push (.fresh c) } (hn.push c) h
    have e1 : (Sw R s).gens.size = s.gens.size := swp_size
    have e2 : ({ Sw R s with gens := (Sw R s).gens.push (.fresh c) } : Shared) = Sw R { s with gens := s.gens.push (.fresh c) } := by
      unfold Sw
      show ({ s with gens := (swp R s.gens).push (.fresh c) } : Shared) = { s with gens := swp R (s.gens.push (.fresh c)) }
      rw [swp_push hn]
    show wp M Γ (k (Sw R s).gens.size) _ _ p _
    rw [e1, e2]
    exact this
  | resume g r _ k ih =>
    intro Q E p s hn h
    obtain ⟨res, s', hw, h⟩ := h
    obtain ⟨b, c⟩ := wakes_sw hw hn
    exact ⟨res, Sw R s', c, ih res Q E p s' b h⟩
  | yield _ _ _ _ => intro Q E p s _ h; exact h
  | stack k ih => intro Q E p s hn h; exact ih _ Q E p s hn h
  | fork _ _ => intro Q E p s _ h; exact h
  | thread k ih => intro Q E p s hn h; exact ih _ Q E p s hn h
  | await _ _ _ _ _ => intro Q E p s _ h; exact h
/-- all that sleep, put into a sleep from which none wakes -/
def deadS (s : Shared) : Shared := { s with gens := s.gens.map dead }
open Classical in
noncomputable def wasR (G : Array GenState) (j : Nat) : Option GenState := match G[j]? with
  | some x => if Susp x then some x else none
  | none => none
theorem wasR_some {G : Array GenState} {j : Nat} {x : GenState} (h : wasR G j = some x) : G[j]? = some x ∧ Susp x := by
  unfold wasR at h
  split at h
  · rename_i y e
    split at h
    · rename_i q
      cases h
      exact ⟨e, q⟩
    · cases h
  · cases h
theorem wasR_none {G : Array GenState} {j : Nat} {x : GenState} (h : wasR G j = none) (e : G[j]? = some x) : ¬ Susp x := by
  unfold wasR at h
  rw [e] at h
  intro q
  simp only [if_pos q] at h
  cases h
theorem slp_dead (s : Shared) : Slp (wasR s.gens) (deadS s).gens where
  dd := fun j x e => by
    show (s.gens.map dead)[j]? = _
    rw [Array.getElem?_map, (wasR_some e).1]; rfl
  sp := fun j x e => (wasR_some e).2
  fr := fun j y e k => by
    have k' : (s.gens.map dead)[j]? = some y := k
    rw [Array.getElem?_map] at k'
    cases q : s.gens[j]? with
    | none => rw [q] at k'; cases k'
    | some x =>
      rw [q] at k'
      have := wasR_none e q
      obtain rfl := Option.some.inj k'
      cases x with
      | suspended _ _ _ _ _ _ => exact absurd trivial this
      | _ => exact NoG.nil
theorem sw_dead (s : Shared) : Sw (wasR s.gens) (deadS s) = s := by
  unfold Sw deadS
  have : swp (wasR s.gens) (s.gens.map dead) = s.gens := by
    refine Array.ext_getElem? fun j => ?_
    rw [swp_get, Array.getElem?_map]
    cases q : s.gens[j]? with
    | none => rfl
    | some x =>
      show some ((wasR s.gens j).getD (dead x)) = some x
      cases e : wasR s.gens j with
      | some y =>
        have := (wasR_some e).1
        rw [q] at this
        rw [Option.some.inj this]; rfl
      | none =>
        have := wasR_none e q
        cases x with
        | suspended _ _ _ _ _ _ => exact absurd trivial this
        | _ => rfl
  show ({ s with gens := swp (wasR s.gens) (s.gens.map dead) } : Shared) = s
  rw [this]
/-- what is kept of s0 at s', and of s's sleepers -/
structure KeepG (s s0 s' : Shared) : Prop where
  eq : s' = { s0 with gens := s'.gens }
  bare : AllBare s0.gens → AllBare s'.gens
  was : ∀ (j : Nat) (x : GenState), s.gens[j]? = some x → Susp x → s'.gens[j]? = some x
theorem allBare_dead {G : Array GenState} (h : AllBare G) : AllBare (G.map dead) := fun y hy => by
  obtain ⟨x, hx, rfl⟩ := Array.mem_map.mp hy
  rw [dead_bare]
  exact h x hx
theorem asleep {α : Type} {M : Model} {A : Around} {t : Sem α} {Q : α → Shared → Prop} {E : Value → Shared → Prop} {s : Shared} (hb : AllBare s.gens) (h : wpAny M A t Q E (deadS s)) :
    wpAny M A t (fun a s' => ∃ s0, KeepG s s0 s' ∧ Q a s0) (fun e s' => ∃ s0, KeepG s s0 s' ∧ E e s0) s := by
  have keep : ∀ s0 s', Slp (wasR s.gens) s0.gens → s' = Sw (wasR s.gens) s0 → KeepG s s0 s' := fun s0 s' h1 h2 => by
    subst h2
    refine ⟨rfl, fun hb0 => ?_, fun j x e q => ?_⟩
    · intro y hy
      obtain ⟨j, hj, e⟩ := Array.mem_iff_getElem.mp hy
      have e' : (swp (wasR s.gens) s0.gens)[j]? = some y := by
        exact (Array.getElem?_eq_getElem hj).trans (congrArg some e)
      rw [swp_get] at e'
      cases q : s0.gens[j]? with
      | none => rw [q] at e'; cases e'
      | some x =>
        rw [q] at e'
        have e2 : (wasR s.gens j).getD x = y := Option.some.inj e'
        cases r : wasR s.gens j with
        | none =>
          rw [r] at e2
          have : x = y := e2
          subst this
          exact hb0 x (Array.mem_of_getElem? q)
        | some z =>
          rw [r] at e2
          have : z = y := e2
          subst this
          exact hb z (Array.mem_of_getElem? (wasR_some r).1)
    · have hR : wasR s.gens j = some x := by
        unfold wasR
        rw [e]
        exact if_pos q
      exact swp_some hR (h1.dd j x hR)
  intro Γ p hΓ
  have := wp_sw M Γ (wasR s.gens) t _ _ p (deadS s) (slp_dead s) (h Γ p hΓ)
  rw [sw_dead] at this
  exact Sem.wp_mono M Γ t (fun a _ s' ⟨s0, h1, h2, h3⟩ => ⟨s0, keep s0 s' h1 h2, h3⟩) (fun e _ s' ⟨s0, h1, h2, h3⟩ => ⟨s0, keep s0 s' h1 h2, h3⟩) p s this
section
variable {X : Cx} {pins : List (Addr × Obj)} {σ : L2.St} {H : Hp} {s : Shared}
theorem Inv.gens {G : Array GenState} (I : L2.Inv X pins σ H s) (h : AllBare G) : L2.Inv X pins σ H { s with gens := G } :=
  ⟨I.ok, I.os, h, I.base, I.loc, I.cell, I.free, I.freeC, I.pin, I.hok, I.len⟩
theorem Inv.kg {s1 s' : Shared} (k : KeepG s1 s s') (I : L2.Inv X pins σ H s) : L2.Inv X pins σ H s' := by
  rw [k.eq]
  exact Inv.gens I (k.bare I.bare)
theorem SP.kg {D : Ends} {f : Flow} {s1 s' : Shared} (k : KeepG s1 s s') (h : SP X pins D f s) : SP X pins D f s' := by
  cases f with
  | next => obtain ⟨σ, H, I, q⟩ := h; exact ⟨σ, H, Inv.kg k I, q⟩
  | brk => obtain ⟨σ, H, I, q⟩ := h; exact ⟨σ, H, Inv.kg k I, q⟩
  | cont => obtain ⟨σ, H, I, q⟩ := h; exact ⟨σ, H, Inv.kg k I, q⟩
  | ret u => obtain ⟨v, σ, H, I, r1, q⟩ := h; exact ⟨v, σ, H, Inv.kg k I, r1, q⟩
end
end K45
/-! ## G3 -/
namespace K45
open PySem PySem.Spec PyProof.Rows L2
/-! ### the heap below an address -/
def cutH (h : Heap) (L : Addr) : Heap := { h with objs := h.objs.extract 0 L }
theorem cutH_get {h : Heap} {L b : Nat} (hb : b < L) : (cutH h L).get? b = h.get? b := by
  have e : (h.objs.extract 0 L)[b]? = h.objs[b]? := by
    rw [Array.getElem?_extract]
    split
    · rw [Nat.zero_add]
    · rename_i hn
      refine (Array.getElem?_eq_none_iff.mpr ?_).symm
      omega
  unfold cutH Heap.get?
  simp only [e]
theorem cutH_out {h : Heap} {L b : Nat} (hb : L ≤ b) : (cutH h L).get? b = none := by
  have e : (h.objs.extract 0 L)[b]? = none := by
    rw [Array.getElem?_extract]
    split
    · rename_i hn; omega
    · rfl
  unfold cutH Heap.get?
  simp only [e]
theorem cutH_some {h : Heap} {L b : Nat} {o : Obj} (e : (cutH h L).get? b = some o) : b < L ∧ h.get? b = some o := by
  by_cases hb : b < L
  · rw [cutH_get hb] at e
    exact ⟨hb, e⟩
  · rw [cutH_out (Nat.not_lt.mp hb)] at e; cases e
theorem cutH_size {h : Heap} {L : Nat} (hl : L ≤ h.objs.size) : (cutH h L).objs.size = L := by
  unfold cutH
  simp only [Array.size_extract]
  omega
theorem cutH_funs {h base : Heap} {L : Addr} : ∀ (l : List Env), (∀ b ∈ frs l, b < L) → h.FunFrames base l → (cutH h L).FunFrames base l := by
  intro l
  induction l with
  | nil => intro _ _; trivial
  | cons env r ih =>
    intro hs hl
    obtain ⟨hk, ⟨L', o, hf, hn, ho, hd⟩, hr⟩ := hl
    have hL : L' < L := hs L' (by unfold frs; rw [List.filterMap_cons, hf]; exact List.mem_cons_self)
    exact ⟨hk, ⟨L', o, hf, hn, (cutH_get hL).trans ho, hd⟩, ih (fun b hb => hs b (by unfold frs; rw [List.filterMap_cons, hf]; exact List.mem_cons_of_mem _ hb)) hr⟩
/-! ### the context of a generator's frame, woken -/
def gX (P : Program) (w : World) (K : PySem.W.Frag) (mg : Str → Option Value) (base : Heap) (N : List Str) (qual : Str) (scope : Scope) (L f : Addr) (cd : Value) (A : Around) (outer : List Env) (s0 : Shared) (H0 : Hp) (pn : List (Addr × Obj)) : Cx where
  prog := P
  w := w
  K := K
  mg := mg
  base := base
  A := A.deeper (envOfC qual scope L f cd)
  N := N
  s_0 := s0
  H_0 := H0
  env := envOfC qual scope L f cd
  outer := outer
  stack := envOfC qual scope L f cd :: outer
  ex := []
  calm := true
  fn := fun _ => true
  pn := pn
  xe := fun _ _ => False
/-- what stands of the frame -/
def GFr (N : List Str) (env : Env) (σ : L2.St) (h : Heap) : Prop :=
  (∃ m, h.Ns env.locals m ∧ ∀ (i : Nat) (x : Str) (v : V), N[i]? = some x → σ[i]? = some (some v) → Vis env.scope x → ∃ u, RelV v u ∧ Look env h m x u) ∧
  (∀ x c, env.cells.lookup x = some c → ∃ v, h.IsCell c v) ∧ σ.length = N.length
def FrA (env : Env) (b : Addr) : Prop := b = env.locals ∨ ∃ x, env.cells.lookup x = some b
theorem GFr.keep {N : List Str} {env : Env} {σ : L2.St} {h h' : Heap} (F : GFr N env σ h) (k : ∀ b, FrA env b → ∀ o, h.get? b = some o → h'.get? b = some o) : GFr N env σ h' := by
  obtain ⟨⟨m, hn, hl⟩, hc, hle⟩ := F
  have cellK : ∀ x c, env.cells.lookup x = some c → ∀ v, h.IsCell c v → h'.IsCell c v := fun x c e v ⟨o, ho, hd⟩ => ⟨o, k c (.inr ⟨x, e⟩) o ho, hd⟩
  refine ⟨⟨m, hn.at' fun o e => k _ (.inl rfl) o e, fun i x v e1 e2 e3 => ?_⟩, fun x c e => ?_, hle⟩
  · obtain ⟨u, r, l⟩ := hl i x v e1 e2 e3
    refine ⟨u, r, ?_⟩
    rcases l with l | ⟨k', c, e, z⟩
    · exact .inl l
    · exact .inr ⟨k', c, e, cellK x c e _ z⟩
  · obtain ⟨v, z⟩ := hc x c e
    exact ⟨v, cellK x c e v z⟩
/-- what is known of such a frame ahead -/
structure GEnv (env : Env) (L : Addr) : Prop where
  kind : env.scope.kind = .function
  inj : ∀ x y c, env.cells.lookup x = some c → env.cells.lookup y = some c → x = y
  has : ∀ x, (env.kindOf x = some .cell ∨ env.kindOf x = some .free) → ∃ c, env.cells.lookup x = some c
  cab : ∀ x c, env.cells.lookup x = some c → L ≤ c
section
variable {X : Cx} {pins : List (Addr × Obj)} {σ σg : L2.St} {H H1 : Hp} {s s1 : Shared} {N : List Str} {qual : Str} {scope : Scope} {L f : Addr} {cd : Value} {A : Around} {pn ip : List (Addr × Obj)}
/-- the consumer stands below the frame -/
structure Below (X : Cx) (pins : List (Addr × Obj)) (L : Addr) : Prop where
  loc : X.env.locals < L
  cel : ∀ x c, X.env.cells.lookup x = some c → c < L
  pin : ∀ p ∈ X.pn ++ pins, p.1 < L
theorem Below.frs (B : Below X pins L) (I : L2.Inv X pins σ H s) : ∀ b ∈ L2.frs X.stack, b < L := fun b hb => by
  rcases List.mem_cons.mp (I.stkSub b hb) with z | z
  · rw [z]; exact B.loc
  · obtain ⟨_, o, ho, _⟩ := I.ok.funs.mem z
    exact Nat.lt_of_lt_of_le (Heap.lt_size ho) (Nat.le_trans I.ok.above (Nat.le_of_lt B.loc))
theorem Below.s0 (B : Below X pins L) (I : L2.Inv X pins σ H s) : X.s_0.heap.objs.size ≤ L := Nat.le_trans I.ok.above (Nat.le_of_lt B.loc)
theorem wakeInv (I : L2.Inv X pins σ H s) (B : Below X pins L) (hLs : L < s.heap.objs.size) (G : GEnv (envOfC qual scope L f cd) L) (hA : A.frames = some X.stack) (hh : A.handled = none) (F : GFr N (envOfC qual scope L f cd) σg s.heap) (fr : ∀ b, FrA (envOfC qual scope L f cd) b → H b = none)
    (hp : ∀ p ∈ pn ++ ip, s.heap.get? p.1 = some p.2 ∧ H p.1 = none ∧ p.1 ≠ L ∧ L ≤ p.1 ∧ ∀ v, p.2.data ≠ .cell v) :
    L2.Inv (gX X.prog X.w X.K X.mg X.base N qual scope L f cd A X.stack { s with heap := cutH s.heap L } H pn) ip σg H s := by
  have sz : (cutH s.heap L).objs.size = L := cutH_size (Nat.le_of_lt hLs)
  have fb := B.frs I
  have bL : ∀ b o, X.base.get? b = some o → b < L := fun b o e => Nat.lt_of_lt_of_le (Heap.lt_size e) (Nat.le_trans I.ok.bsz (B.s0 I))
  refine ⟨⟨I.mod, G.kind, rfl, rfl, ?_, G.inj, G.has, fun x c _ e => ?_, fun _ => hh, ?_, .inr ⟨rfl, rfl⟩, (fun b z => by cases z), fun b o e => ⟨(cutH_get (bL b o e)).trans (I.bs b o e).1, (I.bs b o e).2⟩, ?_, (fun b o _ z => by cases z), (fun b z => by cases z), cutH_funs _ fb I.stack, I.stkFree⟩,
    rfl, I.bare, ⟨fun b o e _ _ _ => (cutH_some e).2, fun b o e _ _ _ => ⟨o.slots, (cutH_some e).2⟩, fun b o _ n _ => n, fun b o e _ => ⟨o, (cutH_some e).2⟩, fun _ _ q => q, fun _ _ _ q => q, fun _ ps q => ⟨#[], by rw [Array.append_empty]; exact q⟩⟩,
    F.1, F.2.1, fr _ (.inl rfl), fun x c e => fr c (.inr ⟨x, e⟩), fun p hp' => ?_, I.hok, F.2.2⟩
  · show (cutH s.heap L).objs.size ≤ L
    rw [sz]; exact Nat.le_refl _
  · show (cutH s.heap L).objs.size ≤ c
    rw [sz]; exact G.cab x c e
  · exact Around.frames_deeper hA
  · show X.base.objs.size ≤ (cutH s.heap L).objs.size
    rw [sz]; exact Nat.le_trans I.ok.bsz (B.s0 I)
  · obtain ⟨a, b, c, d, e⟩ := hp p hp'
    exact ⟨a, b, c, fun z => absurd (Nat.lt_of_lt_of_le (fb _ z) d) (Nat.lt_irrefl _), e⟩
theorem lowOf {h : Heap} {L b : Addr} {o : Obj} (e : h.get? b = some o) (hx : b ∉ (List.range h.objs.size).filter (fun b => decide (L ≤ b))) : b < L :=
  Nat.not_le.mp fun hL => hx (List.mem_filter.mpr ⟨List.mem_range.mpr (Heap.lt_size e), decide_eq_true hL⟩)
/-- behind a run of the frame: the consumer's state -/
theorem sleepInv (I : L2.Inv X pins σ H s) (B : Below X pins L) {s' : Shared} (hs : s'.os = s.os) (hk : s'.heap = s.heap) (J : L2.Inv (gX X.prog X.w X.K X.mg X.base N qual scope L f cd A X.stack { s' with heap := cutH s'.heap L } H pn) ip σg H1 s1) : L2.Inv X pins σ H1 s1 := by
  have u : Un (L2.frs X.stack) [] H H1 (cutH s'.heap L) s1.heap := J.base
  have hos : s1.os = s'.os := J.os
  rw [hk] at u
  refine I.call' (ch := (List.range s.heap.objs.size).filter fun b => decide (L ≤ b)) (hos.trans hs) ⟨fun b o e n hb hx => ?_, fun b o e n hb hx => ?_, fun b o e n hx => ?_, fun b o e hx => ?_, u.tups, u.frzs, u.tbls⟩ J.hok J.bare fun b hb => ?_
  · exact u.keep b o ((cutH_get (lowOf e hx)).trans e) n hb (by simp)
  · exact u.slot b o ((cutH_get (lowOf e hx)).trans e) n hb (by simp)
  · exact u.free b o ((cutH_get (lowOf e hx)).trans e) n (by simp)
  · exact u.there b o ((cutH_get (lowOf e hx)).trans e) (by simp)
  · have hL : L ≤ b := of_decide_eq_true (List.mem_filter.mp hb).2
    refine ⟨.inr (Nat.le_trans (B.s0 I) hL), Nat.ne_of_gt (Nat.lt_of_lt_of_le B.loc hL), fun x c e z => ?_, fun p hp z => ?_⟩
    · have := B.cel x c e
      rw [z] at this
      exact absurd (Nat.lt_of_lt_of_le this hL) (Nat.lt_irrefl _)
    · have := B.pin p hp
      rw [z] at this
      exact absurd (Nat.lt_of_lt_of_le this hL) (Nat.lt_irrefl _)
/-! ### what sleeps is tracked as it is -/
def asIs (p : Addr × Obj) : HO := .frz p.2 (.ext fun h => h.get? p.1 = some p.2)
def Fz (H : Hp) (l : List (Addr × Obj)) : Prop := ∀ p ∈ l, H p.1 = some (asIs p)
def fzH (H : Hp) (l : List (Addr × Obj)) : Hp := fun b => match l.find? (fun p => p.1 == b) with
  | some p => some (asIs p)
  | none => H b
def unH (H : Hp) (l : List (Addr × Obj)) : Hp := fun b => match l.find? (fun p => p.1 == b) with
  | some _ => none
  | none => H b
theorem find_not {l : List (Addr × Obj)} {b : Addr} (h : ∀ p ∈ l, p.1 ≠ b) : l.find? (fun p => p.1 == b) = none := by
  rw [List.find?_eq_none]
  intro p hp
  simp only [beq_iff_eq]
  exact h p hp
theorem find_in {l : List (Addr × Obj)} {p : Addr × Obj} (hp : p ∈ l) : ∃ q ∈ l, q.1 = p.1 ∧ l.find? (fun q => q.1 == p.1) = some q := by
  cases e : l.find? (fun q => q.1 == p.1) with
  | none =>
    rw [List.find?_eq_none] at e
    exact absurd (beq_self_eq_true p.1) (e p hp)
  | some q =>
    refine ⟨q, List.mem_of_find?_eq_some e, ?_, rfl⟩
    have := List.find?_some e
    exact beq_iff_eq.mp this
theorem fz_ne {l : List (Addr × Obj)} {b : Addr} (h : ∀ p ∈ l, p.1 ≠ b) : fzH H l b = H b := by
  unfold fzH; rw [find_not h]
theorem un_ne {l : List (Addr × Obj)} {b : Addr} (h : ∀ p ∈ l, p.1 ≠ b) : unH H l b = H b := by
  unfold unH; rw [find_not h]
theorem un_in {l : List (Addr × Obj)} {p : Addr × Obj} (hp : p ∈ l) : unH H l p.1 = none := by
  obtain ⟨q, _, _, e⟩ := find_in hp
  unfold unH; rw [e]
def SameX (L : Addr) (H H' : Hp) : Prop := ∀ b u, H b = some u → (b < L ∨ ∀ o φ, u ≠ .frz o (.ext φ)) → H' b = some u
theorem SameX.of {L : Addr} {H H' : Hp} (h : Same H H') : SameX L H H' := fun b u e _ => h b u e
theorem SameX.trans {L : Addr} {H H1 H2 : Hp} (a : SameX L H H1) (b : SameX L H1 H2) : SameX L H H2 := fun c u e n => b c u (a c u e n) n
theorem fz_x {l : List (Addr × Obj)} (h : ∀ p ∈ l, H p.1 = none) : SameX L H (fzH H l) := fun b u e _ => by
  rw [fz_ne fun p hp z => ?_]
  · exact e
  · rw [← z, h p hp] at e; cases e
theorem un_k {l : List (Addr × Obj)} (h : Fz H l) : ∀ b u, H b = some u → (∀ o φ, u ≠ .frz o (.ext φ)) → unH H l b = some u := fun b u e n => by
  rw [un_ne fun p hp z => ?_]
  · exact e
  · rw [← z, h p hp] at e
    exact n _ _ (Option.some.inj e).symm
theorem un_x {l : List (Addr × Obj)} (h : Fz H l) (hL : ∀ p ∈ l, L ≤ p.1) : SameX L H (unH H l) := fun b u e n => by
  rcases n with n | n
  · rw [un_ne fun p hp z => ?_]
    · exact e
    · have := hL p hp
      rw [z] at this
      exact absurd (Nat.lt_of_lt_of_le n this) (Nat.lt_irrefl _)
  · exact un_k h b u e n
theorem fz_Fz {l : List (Addr × Obj)} {h : Heap} (hl : ∀ p ∈ l, h.get? p.1 = some p.2) : Fz (fzH H l) l := fun p hp => by
  obtain ⟨q, hq, e1, e⟩ := find_in hp
  unfold fzH; rw [e]
  have h1 := hl q hq
  rw [e1, hl p hp] at h1
  have : q = p := Prod.ext e1 (Option.some.inj h1).symm
  rw [this]
theorem Fz.get {P : Program} {w : World} {h : Heap} {l : List (Addr × Obj)} (k : HOk P w H h) (z : Fz H l) : ∀ p ∈ l, h.get? p.1 = some p.2 := fun p hp => (k p.1 _ (z p hp)).1
/-- put asleep -/
theorem Inv.fz {l : List (Addr × Obj)} (I : L2.Inv X pins σ H s) (B : Below X pins L) (hl : ∀ p ∈ l, s.heap.get? p.1 = some p.2 ∧ H p.1 = none ∧ L ≤ p.1) : L2.Inv X pins σ (fzH H l) s := by
  have ne : ∀ b, b < L → ∀ p ∈ l, p.1 ≠ b := fun b hb p hp z => by
    have := (hl p hp).2.2
    rw [z] at this
    exact absurd (Nat.lt_of_lt_of_le hb this) (Nat.lt_irrefl _)
  have kp : ∀ b u, H b = some u → fzH H l b = some u := fun b u e => by
    rw [fz_ne fun p hp z => ?_]
    · exact e
    · rw [← z, (hl p hp).2.1] at e; cases e
  have s0 := B.s0 I
  refine ⟨I.ok, I.os, I.bare, ⟨I.base.keep, I.base.slot, fun b o e n hx => ?_, I.base.there, fun b xs e => kp _ _ (I.base.tups b xs e), fun b o u e => kp _ _ (I.base.frzs b o u e), fun b ps e => ?_⟩, I.loc, I.cell, ?_, fun x c e => ?_, fun p hp => ?_, fun b u e => ?_, I.len⟩
  · rw [fz_ne (ne b (Nat.lt_of_lt_of_le (Heap.lt_size e) s0))]
    exact I.base.free b o e n hx
  · obtain ⟨more, q⟩ := I.base.tbls b ps e
    exact ⟨more, kp _ _ q⟩
  · rw [fz_ne (ne _ B.loc)]; exact I.free
  · rw [fz_ne (ne _ (B.cel x c e))]; exact I.freeC x c e
  · obtain ⟨a, b, c⟩ := I.pin p hp
    refine ⟨a, ?_, c⟩
    rw [fz_ne (ne _ (B.pin p hp))]; exact b
  · unfold fzH at e
    split at e
    · rename_i p hf
      cases e
      have hp := List.mem_of_find?_eq_some hf
      have hb : p.1 = b := beq_iff_eq.mp (List.find?_some (p := fun (p : Addr × Obj) => p.1 == b) hf)
      obtain ⟨g, _, _⟩ := hl p hp
      rw [← hb]
      exact ⟨g, g, ⟨_, g⟩, fun h1 h2 q k => k _ q⟩
    · exact (I.hok b u e).stay (fun _ _ _ q => q) (fun c q => kp _ _ q) fun c xs q => kp _ _ q
/-- woken -/
theorem Inv.unfz {l : List (Addr × Obj)} (I : L2.Inv X pins σ H s) (z : Fz H l) (n0 : ∀ p ∈ l, ∀ o u, X.H_0 p.1 ≠ some (.frz o u)) : L2.Inv X pins σ (unH H l) s := by
  have nn : ∀ b, H b = none → unH H l b = none := fun b e => by
    unfold unH
    split
    · rfl
    · exact e
  have kp : ∀ b u, H b = some u → (∀ o φ, u ≠ .frz o (.ext φ)) → unH H l b = some u := fun b u e n => un_k z b u e n
  refine ⟨I.ok, I.os, I.bare, ⟨fun b o e n hb hx => I.base.keep b o e n hb hx, I.base.slot, fun b o e n hx => nn b (I.base.free b o e n hx), I.base.there, fun b xs e => kp _ _ (I.base.tups b xs e) (fun _ _ q => by cases q), fun b o u e => ?_, fun b ps e => ?_⟩, I.loc, I.cell, nn _ I.free, fun x c e => nn _ (I.freeC x c e), fun p hp => ?_, fun b u e => ?_, I.len⟩
  · rw [un_ne fun p hp y => n0 p hp o u (by rw [y]; exact e)]
    exact I.base.frzs b o u e
  · obtain ⟨more, q⟩ := I.base.tbls b ps e
    exact ⟨more, kp _ _ q (fun _ _ q => by cases q)⟩
  · obtain ⟨a, b, c⟩ := I.pin p hp
    exact ⟨a, nn _ b, c⟩
  · unfold unH at e
    split at e
    · cases e
    · exact (I.hok b u e).stay (fun _ _ _ q => q) (fun c q => kp _ _ q fun _ _ q => by cases q) fun c xs q => kp _ _ q fun _ _ q => by cases q
end
end K45
/-! ## G4 -/
namespace K45
open PySem PySem.Spec PyProof.Rows L2
def KF (tg : Expr) (it : Value) (body : List Stmt) (env : Env) : Flow → Sem PySem.Fin := fun f => match f with
  | .next => .pure (.again (.forLoop tg it body [] env))
  | .cont => .pure (.again (.forLoop tg it body [] env))
  | .brk => .pure (.done .next)
  | .ret v => .pure (.done (.ret v))
def JF (env : Env) : Value → Sem PySem.Fin := fun e => (do noteFrame e env; theTreesLotGoes e : Sem Unit).wrap (fun _ => .raise e) .raise id id
section
variable {prog : Program} {w : World} {A : Around} {R : GenEnd} {Y : Protocol} {n : Nat} {s₀ : Shared} {fs : List Frame} {s : Shared} {env : Env}
theorem seg_forLoop {tg : Expr} {it : Value} {body : List Stmt}
    (h : wpAny (model prog w) (A.over (.forLoop tg it body [] env) fs) (pyNext it) (fun r s1 => match r with
      | none => Seg (model prog w) A R Y n s₀ (.forLoop tg it body [] env) (.pure (.again (.block [] env))) fs s1
      | some v => wpAny (model prog w) (A.over (.forLoop tg it body [] env) fs) (letOwnedTupleGo tg it v) (fun _ s2 => wpAny (model prog w) (A.over (.forLoop tg it body [] env) fs) (assign tg env v) (fun _ s3 =>
          Seg (model prog w) A R Y n s₀ (.forLoop tg it body [] env) ((execs body env).wrap (KF tg it body env) (JF env) id id) fs s3) (fun _ _ => False) s2) (fun _ _ => False) s1) (fun _ _ => False) s) :
    Seg (model prog w) A R Y n s₀ (.forLoop tg it body [] env) ((model prog w).den (.forLoop tg it body [] env)) fs s := by
  show Seg _ A R Y n s₀ _ ((forTurn tg it body [] env).onRaise (fun x => do noteFrame x env; theTreesLotGoes x)) fs s
  unfold forTurn
  rw [Sem.onRaise_eq_wrap]
  refine seg_bind_wrap (wpAny_standAt ?_)
  refine seg_bind_wrap (wpAny_onRaise (wpAny_mono h (fun r s1 hr => ?_) fun _ _ z => z.elim))
  cases r with
  | none => exact hr
  | some v =>
    refine seg_bind_wrap (wpAny_mono hr (fun _ s2 h2 => ?_) fun _ _ z => z.elim)
    refine seg_bind_wrap (wpAny_mono h2 (fun _ s3 h3 => ?_) fun _ _ z => z.elim)
    rw [Sem.bind_eq_wrap', Sem.wrap_wrap]
    rw [Sem.wrap_congr (execs body env) _ _ (K' := KF tg it body env) (H' := JF env)
      (fun f => by cases f <;> rfl)
      (fun e => by first | exact Sem.bind_eq_wrap _ _ | (show (do noteFrame e env; theTreesLotGoes e : Sem Unit).bind (fun _ => .raise e) = _; rw [Sem.bind_eq_wrap]; rfl))]
    exact h3
/-- what a loop's end becomes behind its call -/
def KR (env : Env) (K : Flow → Sem PySem.Fin) (J : Value → Sem PySem.Fin) (gd : Bool → Bool) (lv : List Value → List Value) : Result → Sem PySem.Fin := fun r => ((match r with | .ok f => (.pure f : Sem Flow) | .error e => .raise e).onRaise (cameBack env)).wrap K J gd lv
theorem seg_For {tg iter : Expr} {body : List Stmt} {pos : Pos} {c : Code} {K : Flow → Sem PySem.Fin} {J : Value → Sem PySem.Fin} {gd : Bool → Bool} {lv : List Value → List Value} (hs : ∀ x, foldedSetIterable iter env x = pure x)
    (h : wpAny (model prog w) (A.over c fs) (eval iter env) (fun x s1 => wpAny (model prog w) (A.over c fs) (pyIter x) (fun it s2 => ∀ p, Seg (model prog w) A R Y n s₀ (.forLoop tg it body [] env) ((model prog w).den (.forLoop tg it body [] env))
      (.ret (KR env K J gd lv) none (gd false) (lv []) c p [] :: fs) s2) (fun _ _ => False) s1) (fun _ _ => False) s) :
    Seg (model prog w) A R Y n s₀ c ((exec (.For tg iter body [] pos) env).wrap K J gd lv) fs s := by
  rw [exec_For]
  refine seg_bind_wrap (wpAny_standAt ?_)
  refine seg_bind_wrap (wpAny_mono h (fun x s1 h1 => ?_) fun _ _ z => z.elim)
  rw [hs]
  refine seg_bind_wrap (wpAny_pure ?_)
  refine seg_bind_wrap (wpAny_standAt ?_)
  refine seg_bind_wrap (wpAny_holding (wpAny_mono h1 (fun it s2 h2 => ?_) fun _ _ z => z.elim))
  exact seg_call h2
end
end K45
/-! ## G5 -/
namespace K45
open PySem PySem.Spec PyProof.Rows L2
/-- kept but for what sleeps and the consumer's own list -/
def KeepX (L F : Addr) (H H' : Hp) : Prop := ∀ b u, H b = some u → (b < L ∨ ∀ o φ, u ≠ .frz o (.ext φ)) → b ≠ F → H' b = some u
theorem KeepX.of {L F : Addr} {H H' : Hp} (h : SameX L H H') : KeepX L F H H' := fun b u e n _ => h b u e n
def KeepB (F : Addr) (H H' : Hp) : Prop := ∀ b u, H b = some u → b ≠ F → H' b = some u
theorem KeepX.ofB {L F : Addr} {H H' : Hp} (h : KeepB F H H') : KeepX L F H H' := fun b u e _ n => h b u e n
/-- all that is tracked there stands below L -/
def LowH (H : Hp) (L : Addr) : Prop := ∀ b, H b ≠ none → b < L
def cellA (env : Env) : List Addr := env.cells.filterMap fun p => env.cells.lookup p.1
theorem mem_cellA {env : Env} {b : Addr} : b ∈ cellA env ↔ ∃ x, env.cells.lookup x = some b := by
  unfold cellA
  rw [List.mem_filterMap]
  constructor
  · rintro ⟨p, _, e⟩
    exact ⟨p.1, e⟩
  · rintro ⟨x, e⟩
    exact ⟨(x, b), PySem.mem_of_lookup e, e⟩
/-- what the generator and its consumer agree on -/
structure Deal where
  F : Addr
  H1 : Hp
  m : Nat
  Pv : Nat → L2.St → Hp → Prop
  Item : Nat → V → Hp → Prop
  GW : It → Nat → L2.St → Hp → Prop
  m1 : m < 1000
  pst : ∀ L, LowH H1 L → ∀ i σ H H', Pv i σ H → SameX L H H' → Pv i σ H'
  ist : ∀ L, LowH H1 L → ∀ i y H H', Item i y H → SameX L H H' → Item i y H'
  gst : ∀ L, LowH H1 L → ∀ J i σ H H', GW J i σ H → KeepX L F H H' → GW J i σ H'
section
variable (X : Cx) (pins : List (Addr × Obj)) (d : Deal) (g a : Nat) (go : Obj)
def Wk (i : Nat) (l : List (Addr × Obj)) (Gok : Hp → Prop) (s'' : Shared) : Prop := ∃ σ H s3, s'' = s3.setGen g .running ∧ L2.Inv X pins σ H s3 ∧ Fz H l ∧ d.Pv i σ H ∧ Gok H
def YN : Protocol := fun n s₀ v s₁ kap => ∃ (i : Nat) (σ : L2.St) (H : Hp) (y : V) (l : List (Addr × Obj)) (Gok : Hp → Prop), n + (i + 1) = 1000 ∧ i < d.m ∧ L2.Inv X pins σ H s₁ ∧ (a, go) ∈ l ∧ Fz H l ∧ (∀ p ∈ l, ∀ o u, X.H_0 p.1 ≠ some (.frz o u)) ∧ d.Pv i σ H ∧ d.Item i y H ∧ RelV y v ∧ Gok H ∧
  (∀ H H', Gok H → KeepB d.F H H' → Gok H') ∧ ∀ x s'', (x = Value.none ∨ x = Value.int 0 0) → Wk X pins d g (i + 1) l Gok s'' → kap (.send x) s''
def FN (_ : Nat) (_ s₁ : Shared) : Prop := ∃ σ H, L2.Inv X pins σ H s₁ ∧ d.Pv d.m σ H
def RN : GenEnd := fun n s₀ r s₁ => ((r = .ok (.ret .none) ∨ r = .ok .next) ∧ FN X pins d n s₀ s₁) ∨ ∃ e, r = .error e ∧ (fun (_ : Value) (_ : Shared) => False) e s₁
end
section
variable {X : Cx} {pins : List (Addr × Obj)} {d : Deal} {g a : Nat} {go : Obj} {N : List Str} {qual : Str} {scope : Scope} {L f : Addr} {cd : Value}
abbrev GXat (X : Cx) (N : List Str) (qual : Str) (scope : Scope) (L f : Addr) (cd : Value) (a : Nat) (go : Obj) (s3 : Shared) (HU : Hp) : Cx := gX X.prog X.w X.K X.mg X.base N qual scope L f cd X.A.in1 X.stack { s3 with heap := cutH s3.heap L } HU [(a, go)]
/-- running, at the start of a turn -/
def Awk (X : Cx) (pins : List (Addr × Obj)) (d : Deal) (N : List Str) (qual : Str) (scope : Scope) (L f : Addr) (cd : Value) (a : Nat) (go : Obj) (i : Nat) (J : It) (fp : List Addr) (tn : Nat → Heap → Prop) (s : Shared) : Prop :=
  ∃ σ HU s3 σg H, L2.Inv X pins σ HU s3 ∧ L < s3.heap.objs.size ∧ L2.Inv (GXat X N qual scope L f cd a go s3 HU) [] σg H s ∧ Same HU H ∧ d.Pv i σ HU ∧ d.GW J i σg H ∧ tn i s.heap ∧ ∀ b ∈ fp, FpOk (GXat X N qual scope L f cd a go s3 HU) [] H b
structure GStat (X : Cx) (pins : List (Addr × Obj)) (d : Deal) (qual : Str) (scope : Scope) (L f : Addr) (cd : Value) (a g : Nat) (go : Obj) : Prop where
  below : Below X pins L
  genv : GEnv (envOfC qual scope L f cd) L
  hA : X.A.frames = some X.stack
  hh : X.A.handled = none
  La : L < a
  low : LowH d.H1 L
  gd : ∀ v, go.data ≠ .cell v
/-- a turn of the generator, by readings: from the iterator's item to what is handed out -/
structure GTurn (d : Deal) (tg : TG) (te : TE) : Prop where
  go : ∀ J i σ H, d.GW J i σ H → i < d.m → J.go i H ∧ ∀ x H', J.yld i H x H' → tg x σ H' fun σ2 H2 => te σ2 H2 fun y H3 => Same H H3 ∧ d.GW J (i + 1) σ2 H3 ∧ d.Item i y H3
  stop : ∀ J σ H, d.GW J d.m σ H → J.stop d.m H
theorem over_for {c' : Code} {body : List Stmt} {env : Env} {A : Around} {k : Result → Sem PySem.Fin} {gg : Bool} {l kp : List Value} {p : Pos} (hw : c'.weight = 0) (hu : c'.cUnits = 0) : A.over c' [.ret k none gg l (.func body env) p kp] = A.deeper env :=
  (GenW.over_loop hw hu).trans GenW.over_func
theorem gen_loop {tg2 ey : Expr} {yp ep : Pos} {gt : TG} {te : TE} {body : List Stmt} (GS : GStat X pins d qual scope L f cd a g go) (GT : GTurn d gt te)
    (hg : ∀ s3 HU, PG (GXat X N qual scope L f cd a go s3 HU) tg2 gt) (he : ∀ s3 HU, PE (GXat X N qual scope L f cd a go s3 HU) ey te) (hco : scope.isCoroutine = false) (hi : interactive (envOfC qual scope L f cd) = false)
    {K : Flow → Sem PySem.Fin} {Jx : Value → Sem PySem.Fin} (hK : K .next = .pure (.done (.ret .none))) {p : Pos} :
    ∀ (r i n : Nat) (s₀ s : Shared) (J : It) (it : Addr) (fp : List Addr) (tn : Nat → Heap → Prop), i + r = d.m → n + i = 1000 → L2.Turn X.prog X.w X.K tg2 J fp it tn → Awk X pins d N qual scope L f cd a go i J fp tn s →
      Seg (model X.prog X.w) X.A.in1 (RN X pins d) (YN X pins d g a go) n s₀ (.forLoop tg2 (.ref it) [.Expr (.Yield (some ey) yp) ep] [] (envOfC qual scope L f cd))
        ((model X.prog X.w).den (.forLoop tg2 (.ref it) [.Expr (.Yield (some ey) yp) ep] [] (envOfC qual scope L f cd)))
        [.ret (KR (envOfC qual scope L f cd) K Jx id id) none false [] (.func body (envOfC qual scope L f cd)) p []] s := by
  intro r
  induction r with
  | zero =>
    intro i n s₀ s J it fp tn hir hn T hw
    obtain rfl : i = d.m := by omega
    obtain ⟨σ, HU, s3, σg, H, IX, hL, IG, hsm, hP, hGW, hst, hfp⟩ := hw
    refine seg_forLoop ?_
    rw [over_for (by rfl) (by rfl)]
    refine wpAny_mono (T.done (GXat X N qual scope L f cd a go s3 HU) rfl rfl rfl rfl d.m [] s σg H (fun _ _ => False) IG hfp hst (GT.stop J σg H hGW)) (fun q s1 hq => ?_) fun _ _ z => z
    obtain ⟨rfl, I1⟩ := hq
    refine seg_again rfl ?_
    refine seg_leaf (.ok .next) ?_
    show Seg _ _ _ _ _ _ _ (K .next) [] s1
    rw [hK]
    exact seg_end (.ok (.ret .none)) (.inl ⟨.inl rfl, σ, H, sleepInv IX GS.below rfl rfl I1, d.pst L GS.low _ _ _ _ hP (SameX.of hsm)⟩)
  | succ r ih =>
    intro i n s₀ s J it fp tn hir hn T hw
    obtain ⟨σ, HU, s3, σg, H, IX, hL, IG, hsm, hP, hGW, hst, hfp⟩ := hw
    obtain ⟨hgo, hstep⟩ := GT.go J i σg H hGW (by omega)
    obtain ⟨n, rfl⟩ : ∃ n', n = n' + 1 := ⟨n - 1, by have := d.m1; omega⟩
    have hAo : ∀ {c' : Code}, c'.weight = 0 → c'.cUnits = 0 → X.A.in1.over c' [.ret (KR (envOfC qual scope L f cd) K Jx id id) none false [] (.func body (envOfC qual scope L f cd)) p []] = X.A.in1.deeper (envOfC qual scope L f cd) := fun hw hu => over_for hw hu
    refine seg_forLoop ?_
    rw [hAo (by rfl) (by rfl)]
    refine wpAny_mono (T.item (GXat X N qual scope L f cd a go s3 HU) rfl rfl rfl rfl i [] s σg H (fun _ _ => False) IG hfp hst hgo) (fun q s1 hq => ?_) fun _ _ z => z
    obtain ⟨u, rfl, hq⟩ := hq
    refine wpAny_mono hq (fun _ s2 h2 => ?_) fun _ _ z => z
    obtain ⟨x, H2, I2, rx, hy, st2, n2⟩ := h2
    have stat2 : ∀ b ∈ fp, FpOk (GXat X N qual scope L f cd a go s3 HU) [] H2 b := fun b hb => ⟨n2 b hb, (hfp b hb).2⟩
    have I2' := I2.pinned stat2 (T.obj _ _ st2)
    refine wpAny_mono ((hg s3 HU).run _ s2 σg H2 x u _ I2' rx (hstep x H2 hy)) (fun _ s4 h4 => ?_) fun _ _ z => z
    obtain ⟨σ2, H4, I4, q4⟩ := h4
    refine seg_execs_cons ?_
    refine seg_Expr_Yield (by rfl) rfl (by rfl) ?_ hco hi
    rw [hAo (by rfl) (by rfl)]
    refine wpAny_mono ((he s3 HU).run _ s4 σ2 H4 _ I4 q4) (fun v s5 hv => ?_) fun _ _ z => z.elim
    obtain ⟨y, H3, J9, ry, hsame, hGW', hItem⟩ := hv
    -- the frame's objects as they stand
    have pinF : ∀ b ∈ fp, ∀ o, s2.heap.get? b = some o → s5.heap.get? b = some o ∧ H3 b = none := fun b hb o e =>
      let z := J9.pin (b, o) (List.mem_append_right _ (List.mem_append_right _ (mem_pinsAt hb e)))
      ⟨z.1, z.2.1⟩
    have tn5 : tn (i + 1) s5.heap := T.keep _ _ _ st2 fun b hb o e => (pinF b hb o e).1
    have noneF : ∀ b ∈ fp, H3 b = none := fun b hb => by
      obtain ⟨o, e, _⟩ := T.obj _ _ st2 b hb
      exact (pinF b hb o e).2
    have hLs5 : L < s5.heap.objs.size := J9.lt
    have I' : L2.Inv X pins σ H3 s5 := sleepInv IX GS.below rfl rfl J9
    have pa := J9.pin (a, go) (List.mem_append_left _ (List.mem_singleton.mpr rfl))
    generalize hl : (a, go) :: pinsAt (L :: (cellA (envOfC qual scope L f cd) ++ fp)) s5.heap = l
    have inl : ∀ b, b ∈ L :: (cellA (envOfC qual scope L f cd) ++ fp) → ∀ o, s5.heap.get? b = some o → (b, o) ∈ l := fun b hb o e => by
      rw [← hl]; exact List.mem_cons_of_mem _ (mem_pinsAt hb e)
    have szU : (cutH s3.heap L).objs.size = L := cutH_size (Nat.le_of_lt hL)
    have hlp : ∀ p ∈ l, s5.heap.get? p.1 = some p.2 ∧ H3 p.1 = none ∧ L ≤ p.1 := fun p hp => by
      rw [← hl] at hp
      rcases List.mem_cons.mp hp with z | z
      · rw [z]; exact ⟨pa.1, pa.2.1, Nat.le_of_lt GS.La⟩
      · obtain ⟨hb, e⟩ := of_pinsAt z
        refine ⟨e, ?_⟩
        rcases List.mem_cons.mp hb with y | y
        · rw [y]; exact ⟨J9.free, Nat.le_refl _⟩
        · rcases List.mem_append.mp y with y | y
          · obtain ⟨x', ex⟩ := mem_cellA.mp y
            exact ⟨J9.freeC x' _ ex, GS.genv.cab x' _ ex⟩
          · refine ⟨noneF _ y, ?_⟩
            rcases (hfp _ y).2.2.2.1 with w | w
            · exact absurd w (by show ¬ p.1 ∈ ([] : List Addr); simp)
            · have w' : (cutH s3.heap L).objs.size ≤ p.1 := w
              rw [szU] at w'; exact w'
    have n0 : ∀ p ∈ l, ∀ o u, X.H_0 p.1 ≠ some (.frz o u) := fun p hp o u e => by
      have := I'.base.frzs _ _ _ e
      rw [(hlp p hp).2.1] at this; cases this
    have hnone : ∀ p ∈ l, H3 p.1 = none := fun p hp => (hlp p hp).2.1
    intro kap hk
    refine ⟨i, σ, fzH H3 l, y, l, fun H => d.GW J (i + 1) σ2 H, by omega, by omega, Inv.fz I' GS.below hlp, by rw [← hl]; exact List.mem_cons_self, fz_Fz fun p hp => (hlp p hp).1, n0,
      d.pst L GS.low _ _ _ _ hP ((SameX.of (hsm.trans hsame)).trans (fz_x hnone)), d.ist L GS.low _ _ _ _ hItem (fz_x hnone), ry, d.gst L GS.low _ _ _ _ _ hGW' (KeepX.of (fz_x hnone)), fun H H' z k => d.gst L GS.low _ _ _ _ _ z (KeepX.ofB k), fun x s'' hx hwk => ?_⟩
    refine hk x s'' ?_
    have main : Seg (model X.prog X.w) X.A.in1 (RN X pins d) (YN X pins d g a go) n s'' (.forLoop tg2 (.ref it) [.Expr (.Yield (some ey) yp) ep] [] (envOfC qual scope L f cd))
        ((execs [] (envOfC qual scope L f cd)).wrap (KF tg2 (.ref it) [.Expr (.Yield (some ey) yp) ep] (envOfC qual scope L f cd)) (JF (envOfC qual scope L f cd)) id id)
        [.ret (KR (envOfC qual scope L f cd) K Jx id id) none false [] (.func body (envOfC qual scope L f cd)) p []] s'' := by
      refine seg_execs_nil ?_
      refine seg_again rfl ?_
      refine ih (i + 1) n s'' s'' J it fp tn (by omega) (by omega) T ?_
      obtain ⟨σ', H', s6, rfl, I6, hz, hP6, hG6⟩ := hwk
      have at6 := Fz.get I6.hok hz
      have I7 := Inv.unfz I6 hz n0
      have k56 : ∀ b, b ∈ L :: (cellA (envOfC qual scope L f cd) ++ fp) → ∀ o, s5.heap.get? b = some o → s6.heap.get? b = some o := fun b hb o e => at6 _ (inl b hb o e)
      obtain ⟨mL, hnL, _⟩ := id J9.loc
      have hL6 : L < s6.heap.objs.size := by
        obtain ⟨oL, _, _, eL, _⟩ := id hnL
        exact Heap.lt_size (k56 L List.mem_cons_self oL eL)
      have un0 : ∀ b, b ∈ L :: (cellA (envOfC qual scope L f cd) ++ fp) → (∃ o, s5.heap.get? b = some o) → unH H' l b = none := fun b hb ⟨o, e⟩ => un_in (inl b hb o e)
      have frin : ∀ b, FrA (envOfC qual scope L f cd) b → b ∈ L :: (cellA (envOfC qual scope L f cd) ++ fp) := fun b hb => by
        rcases hb with z | z
        · rw [z]; exact List.mem_cons_self
        · exact List.mem_cons_of_mem _ (List.mem_append_left _ (mem_cellA.mpr z))
      have frobj : ∀ b, FrA (envOfC qual scope L f cd) b → ∃ o, s5.heap.get? b = some o := fun b hb => by
        rcases hb with z | ⟨x', z⟩
        · obtain ⟨oL, _, _, eL, _⟩ := id hnL
          exact ⟨oL, by rw [z]; exact eL⟩
        · obtain ⟨v', o, ho, _⟩ := J9.cell x' b z
          exact ⟨o, ho⟩
      have F5 : GFr N (envOfC qual scope L f cd) σ2 s5.heap := ⟨J9.loc, J9.cell, J9.len⟩
      have J7 := wakeInv (pn := [(a, go)]) (ip := []) (A := X.A.in1) I7 GS.below hL6 GS.genv GS.hA GS.hh (F5.keep fun b hb o e => k56 b (frin b hb) o e) (fun b hb => un0 b (frin b hb) (frobj b hb)) (fun p hp => by
        have hp' : p = (a, go) := by simpa using hp
        rw [hp']
        have ha : (a, go) ∈ l := by rw [← hl]; exact List.mem_cons_self
        exact ⟨at6 _ ha, un_in ha, Nat.ne_of_gt GS.La, Nat.le_of_lt GS.La, GS.gd⟩)
      have szU6 : (cutH s6.heap L).objs.size = L := cutH_size (Nat.le_of_lt hL6)
      refine ⟨σ', unH H' l, s6, σ2, unH H' l, I7, hL6, Inv.gens J7 (allBare_setGen J7.bare rfl), fun _ _ h => h, d.pst L GS.low _ _ _ _ hP6 (un_x hz fun p hp => (hlp p hp).2.2), d.gst L GS.low _ _ _ _ _ hG6 (KeepX.of (un_x hz fun p hp => (hlp p hp).2.2)), ?_, fun b hb => ?_⟩
      · exact T.keep _ _ _ tn5 fun b hb o e => k56 b (List.mem_cons_of_mem _ (List.mem_append_right _ hb)) o e
      · obtain ⟨f0, f1, f2, f3, f4, f5⟩ := hfp b hb
        obtain ⟨o, e, _⟩ := T.obj _ _ st2 b hb
        refine ⟨un0 b (List.mem_cons_of_mem _ (List.mem_append_right _ hb)) ⟨o, (pinF b hb o e).1⟩, f1, f2, .inr ?_, f4, f5⟩
        show (cutH s6.heap L).objs.size ≤ b
        rw [szU6]
        rcases f3 with w | w
        · exact absurd w (by show ¬ b ∈ ([] : List Addr); simp)
        · have w' : (cutH s3.heap L).objs.size ≤ b := w
          rw [szU] at w'; exact w'
    rcases hx with rfl | rfl
    · exact main
    · exact main
end
end K45
/-! ## G6 -/
namespace K45
open PySem PySem.Spec PyProof.Rows L2 GenW
open Sem (wp)
/-! ### next of a generator; what sleeps behind it is suspended -/
def Kap (M : Model) (A : Around) (R : GenEnd) (Y : Protocol) (gs : GenState) : Nat → Resume → Shared → Prop
  | 0 => fun _ _ => False
  | m + 1 => fun r s => gs.Goes M A R Y m r s
theorem resumeS {M : Model} {A : Around} {R : GenEnd} {Y : Protocol} {n : Nat} {E : Value → Shared → Prop} {s : Shared} {g : Nat} {gs : GenState} {r : Resume} {l : List Value} {α : Type} {k : GenResult → Sem α} {Q : α → Shared → Prop}
    (hg : s.gens[g]? = some gs) (hgo : gs.Goes M A R Y n r (s.setGen g .running)) (hR : ∀ x s₁, R n (s.setGen g .running) x s₁ → wpAny M A (k (End.ret x).result) Q E (s₁.setGen g .finished))
    (hY : ∀ v s₁ gs', gs'.bare = true → Susp gs' → Y (n - 1) (s.setGen g .running) v s₁ (Kap M A R Y gs' n) → wpAny M A (k (.yielded v)) Q E (s₁.setGen g gs')) :
    wpAny M A (.resume g r l k) Q E s := by
  intro Γ p hΓ
  rw [Sem.wp_resume]
  have done : ∀ e₁ s₁, SegEnd R Y n (Seg.next M A R Y n) (s.setGen g .running) e₁ s₁ → e₁.quiet = true ∧ wp M Γ (k e₁.result) (fun a _ s' => Q a s') (fun e _ s' => E e s') p (s₁.setGen g e₁.genState) := by
    intro e₁ s₁ he
    cases e₁ with
    | ret x => exact ⟨rfl, hR x s₁ he Γ p hΓ⟩
    | susp v g₀ l₀ k₀ c₀ p₀ fs₀ =>
      refine ⟨he.1, hY v s₁ _ (End.bare_of_quiet he.1) trivial ?_ Γ p hΓ⟩
      cases n with
      | zero => exact he.2
      | succ m => exact he.2
  cases gs with
  | fresh c =>
    obtain ⟨rfl, hs⟩ := hgo
    obtain ⟨e₁, s₁, hr, he⟩ := seg_iff.mp hs (Γ.wake c p) p rfl (hΓ.wake c p)
    obtain ⟨q1, q2⟩ := done e₁ s₁ he
    exact ⟨_, _, by unfold Wakes; rw [hg]; exact ⟨e₁, s₁, hr, q1, rfl, rfl⟩, q2⟩
  | suspended k₀ l₀ c₀ p₀ fs₀ cl =>
    obtain ⟨e₁, s₁, hr, he⟩ := seg_iff.mp hgo (Γ.wake c₀ p) p₀ rfl (hΓ.wake c₀ p)
    obtain ⟨q1, q2⟩ := done e₁ s₁ he
    exact ⟨_, _, by unfold Wakes; rw [hg]; exact ⟨e₁, s₁, hr, q1, rfl, rfl⟩, q2⟩
  | running => exact hgo.elim
  | finished => exact hgo.elim
theorem nextS {P : Program} {w : World} {A : Around} {E : Value → Shared → Prop} {s : Shared} {a : Addr} {g n : Nat} {gs : GenState} {R : GenEnd} {Y : Protocol} {Q : Option Value → Shared → Prop} (hh : A.handled = none)
    (hl : s.heap.NoLimit) (hroom : A.depth < recursionLimit) (hg : s.heap.IsGen a g) (hgs : s.gens[g]? = some gs) (hgo : gs.Goes (model P w) A.in1 R Y n (.send .none) (s.setGen g .running))
    (hY : ∀ v s₁ gs', gs'.bare = true → Susp gs' → Y (n - 1) (s.setGen g .running) v s₁ (Kap (model P w) A.in1 R Y gs' n) → Q (some v) (s₁.setGen g gs'))
    (hP : ∀ r s₁, R n (s.setGen g .running) r s₁ → (r = .ok (.ret .none) ∨ r = .ok .next) ∧ ∀ h', (∀ b o, s₁.heap.get? b = some o → h'.get? b = some o) → Q none { s₁.setGen g .finished with heap := h' }) :
    wpAny (model P w) A (pyNext (.ref a)) Q E s := by
  unfold pyNext
  refine wpAny_bind (wpAny_attempt (wpAny_callSpecial?_slot (name := Str.ofString "__next__") hg.typeIs slot_gen_next
    (wpAny_call_entry slot_gen_next hg.typeIs entry_gen_next ?_ (args_gen_next _))))
  show wpAny _ A.in1 (Builtin.Generator.genWake (.ref a) (.send .none)) _ _ s
  unfold Builtin.Generator.genWake
  refine wpAny_bind (wpAny_holding (wpAny_genNumber hg (wpAny_bind (wpAny_genState hgs ?_))))
  cases gs with
  | running => exact hgo.elim
  | finished => exact hgo.elim
  | _ =>
    refine wpAny_bind (wpAny_roomToWake hl hroom ?_)
    show wpAny _ A.in1 (.resume g (.send .none) [] _) _ _ s
    refine resumeS hgs hgo (fun x s₁ hx => ?_) (fun v s₁ gs' hb hS hv => wpAny_pure ⟨v, rfl, wpAny_pure (hY v s₁ gs' hb hS hv)⟩)
    obtain ⟨hr, hp⟩ := hP x s₁ hx
    have hres : End.result (.ret x) = .returned .none := by
      rcases hr with hr | hr <;> rw [hr] <;> rfl
    first | rw [hres] | simp only [hres]
    show wpAny _ A.in1 (newExc (.type "StopIteration") [] >>= _) _ _ _
    refine wpAny_bind ?_
    simp only [newExc, newTuple]
    refine wpAny_bind (wpAny_newObj_type ?_ (by size_fits))
    refine wpAny_bind (m := firstArgMember _ _) (wpAny_of_eq (a := Value.none) (by first | rfl | (simp only [firstArgMember]; rfl)) ?_)
    refine wpAny_newObj_type ?_ (by size_fits)
    simp only [raiseNew]
    refine wpAny_bind (wpAny_bind (wpAny_handled ?_))
    first | rw [show A.in1.handled = none from hh] | rw [hh]
    refine wpAny_throw ?_
    refine wpAny_bind (wpAny_isInstance (T := "StopIteration") (b := true) ⟨_, Heap.get?_push_size _ rfl, rfl⟩ isSubtype_stop ?_)
    exact wpAny_pure (hp _ fun b o hb => Heap.get?_push_of_some _ (Heap.get?_push_of_some _ hb))
end K45
/-! ## G7 -/
namespace K45
open PySem PySem.Spec PyProof.Rows L2 GenW
/-- what a call of a generator def has made -/
structure Made (N : List Str) (body : List Stmt) (qual : Str) (scope : Scope) (f : Addr) (cd : Value) (vs : List V) (s : Shared) (a g : Nat) (go : Obj) (s' : Shared) : Prop where
  La : s.heap.objs.size < a
  ob : s'.heap.get? a = some go
  gen : ∀ h : Heap, h.get? a = some go → h.IsGen a g
  cls : go.cls = .type "generator"
  gd : ∃ fs, go.data = .fields fs
  fresh : s'.gens[g]? = some (.fresh (.func body (envOfC qual scope s.heap.objs.size f cd)))
  os : s'.os = s.os
  bare : AllBare s'.gens
  kp : ∀ b o, s.heap.get? b = some o → s'.heap.get? b = some o
  fr : GFr N (envOfC qual scope s.heap.objs.size f cd) (start N vs) s'.heap
  ge : GEnv (envOfC qual scope s.heap.objs.size f cd) s.heap.objs.size
theorem made {P : Program} {w : World} {K : PySem.W.Frag} {mg : Str → Option Value} {base : Heap} {f : Addr} {name qual : Str} {params : Arguments} {body : List Stmt} {scope : Scope} {dV kV doc pm cdv ct oc : Value} {an od : Option Addr}
    {osl : Array (Option Value)} {N ps : List Str} (lk : K.lookup f = some ⟨oc, od, .func (PySem.W.fnOf name qual params body scope dV kV doc pm an cdv ct), osl⟩) (hcd : PySem.W.codeIn K cdv qual = true) (S : GScope N ps scope)
    {A : Around} {outer : List Env} {s : Shared} {H : Hp} {args : Args} {us : List Value} {vs : List V} (hh : A.handled = none) (hd : A.depth < recursionLimit) (e0 : Env0 P w K mg base A outer s H)
    (hb : BindsTo s (PySem.W.fnOf name qual params body scope dV kV doc pm an cdv ct) args (ps.zip us)) (r : Vals vs us) (hl : vs.length = ps.length) :
    codeAny (model P w) A (.call (.ref f) args) (fun r s' => ∃ a g go, r = .ok (.ret (.ref a)) ∧ Made N body qual scope f cdv vs s a g go s') s := by
  have KX : K.In s.heap := e0.mod.kin.keeps fun b o e => (e0.bs b o e).1
  have lim : s.heap.NoLimit := e0.mod.nolimit.keeps fun b o e => (e0.bs b o e).1
  have hkind : ∀ y ∈ ps.zip us, scope.names.lookup y.1 = some .local ∨ (scope.names.lookup y.1 = some .cell ∧ ((cellsFrom (s.heap.objs.size + 1) scope.names []).lookup y.1).isSome = true) := fun ⟨n, v⟩ hy => by
    rcases S.par n (List.of_mem_zip hy).1 with q | q
    · exact .inl q
    · exact .inr ⟨q, PySem.W.cellsFrom_some _ _ _ (.inl q)⟩
  refine codeAny_call_generator hd (KX _ _ lk) rfl S.co S.gen rfl (PySem.W.codeRec_of KX hcd) (hb _ _ _ _ ?_)
  refine wpAny_newFunctionEnv_cells S.kind hkind fun env he s1 x => ?_
  subst he
  have lim1 : s1.heap.NoLimit := lim.keeps x.toInCall.keep
  refine ⟨lim1, ?_⟩
  obtain ⟨h1, tk, es1, hk1⟩ := x.done
  have os1 : s1.os = s.os := by rw [es1]
  have gen1 : s1.gens = s.gens := by rw [es1]
  have lt1 : s.heap.objs.size < s1.heap.objs.size := x.toInCall.ns.lt
  have kp1 : ∀ b o, s.heap.get? b = some o → s1.heap.get? b = some o := x.toInCall.keep
  have I1 : L2.Inv (gcxOf P w K mg base N qual scope f cdv A outer s H (fun _ _ _ => False) []) [] (start N vs) H s1 := inv_startG S hh e0 hl r x
  have main : ∀ (go : Obj) (nm qn : Value) (tk2 : Nat), go.cls = .type "generator" → go.data = .fields #[.int s1.gens.size 0, nm, qn] → go.slots = #[] → (∀ h : Heap, (h.push go).get? h.objs.size = some go) →
      ∃ a g go', (Except.ok (Flow.ret (.ref s1.heap.objs.size)) : Result) = .ok (.ret (.ref a)) ∧ Made N body qual scope f cdv vs s a g go' { s1 with gens := s1.gens.push (.fresh (.func body (envOfC qual scope s.heap.objs.size f cdv))), toks := tk2, heap := s1.heap.push go } := by
    intro go nm qn tk2 hgc hgd0 hgs hgp
    refine ⟨s1.heap.objs.size, s1.gens.size, go, rfl, lt1, hgp _, fun h e => ⟨go, nm, qn, e, hgc, hgd0, hgs⟩, hgc, ⟨_, hgd0⟩, Array.getElem?_push_size .., os1, ?_, fun b o e => Heap.get?_push_of_some _ (kp1 b o e), ?_, ⟨I1.ok.kind, I1.ok.inj, I1.ok.has, fun x c e => I1.ok.cab x c rfl e⟩⟩
    · exact AllBare.push (by rw [gen1]; exact e0.bare) rfl
    · exact GFr.keep (env := envOfC qual scope s.heap.objs.size f cdv) ⟨I1.loc, I1.cell, I1.len⟩ fun b _ o e => Heap.get?_push_of_some _ e
  exact main _ _ _ _ rfl rfl rfl fun h => Heap.get?_push_size _ rfl
/-- the reading of a loop over a generator def's call -/
def tForG (N ps : List Str) (targs : TA) (t1 : TS) (wi : TI) (gt : TG) (te : TE) (gc : TG) (tb : TS) : TS := fun D σ H => targs σ H fun vs H1 => vs.length = ps.length ∧ ∃ (d : Deal) (GA : Hp → Prop), d.H1 = H1 ∧ GA H1 ∧ (∀ L, LowH H1 L → ∀ H H', GA H → KeepX L d.F H H' → GA H') ∧
  (∀ σc H, d.Pv 0 σc H → GA H → t1 { nx := fun σ1 H3 => Same H H3 ∧ wi σ1 H3 fun J H4 => Same H3 H4 ∧ d.GW J 0 σ1 H4, rt := fun _ _ => False } (start N vs) H) ∧ GTurn d gt te ∧ d.Pv 0 σ H1 ∧ (∀ i σ H, d.Pv i σ H → ∃ xs, H d.F = some (.lst xs)) ∧
  (∀ i σ H y, i < d.m → d.Pv i σ H → d.Item i y H → gc y σ H fun σ2 H2 => tb { D with nx := fun σ' H' => d.Pv (i + 1) σ' H' ∧ KeepB d.F H H', ct := fun σ' H' => d.Pv (i + 1) σ' H' ∧ KeepB d.F H H', bk := D.nx } σ2 H2) ∧ ∀ σ H, d.Pv d.m σ H → D.nx σ H
/-- asleep, i items out -/
def Slpg (X : Cx) (pins : List (Addr × Obj)) (d : Deal) (g a : Nat) (go : Obj) (i : Nat) (σ : L2.St) (s : Shared) : Prop := ∃ H l Gok gs, L2.Inv X pins σ H s ∧ (a, go) ∈ l ∧ Fz H l ∧ (∀ p ∈ l, ∀ o u, X.H_0 p.1 ≠ some (.frz o u)) ∧ d.Pv i σ H ∧ Gok H ∧ (∀ H H', Gok H → KeepB d.F H H' → Gok H') ∧ s.gens[g]? = some gs ∧ i ≤ d.m ∧
  ∀ s'', Wk X pins d g i l Gok s'' → gs.Goes (model X.prog X.w) X.A.in1 (RN X pins d) (YN X pins d g a go) (1000 - i) (.send .none) s''
section
variable {X : Cx} {pins : List (Addr × Obj)} {d : Deal} {g a : Nat} {go : Obj}
theorem for_gen {tgc : Expr} {bodyc : List Stmt} {gc : TG} {tb : TS} {D : Ends} {R : Result → Shared → Prop} (hxe : ∀ e s, ¬ X.xe e s) (hc : X.calm = true) (hroom : X.A.depth < recursionLimit) (hgen : ∀ h : Heap, h.get? a = some go → h.IsGen a g) (hcls : go.cls = .type "generator") (hgd : ∃ fs, go.data = .fields fs)
    (hg : PG X tgc gc) (hb : PSs X bodyc tb) (hF : ∀ i σ H, d.Pv i σ H → ∃ xs, H d.F = some (.lst xs))
    (hC : ∀ i σ H y, i < d.m → d.Pv i σ H → d.Item i y H → gc y σ H fun σ2 H2 => tb { D with nx := fun σ' H' => d.Pv (i + 1) σ' H' ∧ KeepB d.F H H', ct := fun σ' H' => d.Pv (i + 1) σ' H' ∧ KeepB d.F H H', bk := D.nx } σ2 H2) (hD : ∀ σ H, d.Pv d.m σ H → D.nx σ H)
    (hR : ∀ f s', SP X pins D f s' → R (.ok f) s') (s : Shared) (σ : L2.St) (h : Slpg X pins d g a go 0 σ s) : codeAny (model X.prog X.w) X.A (.forLoop tgc (.ref a) bodyc [] X.env) R s := by
  refine codeAny_forLoop_any (fun n s' => ∃ i σ', n + i = 1001 ∧ Slpg X pins d g a go i σ' s') ?_ 1001 ⟨0, σ, rfl, h⟩
  rintro n s1 ⟨i, σ1, hn, H, l, Gok, gs, I, ha, hz, n0, hP, hG, hGst, hgs, him, wake⟩
  have at1 := Fz.get I.hok hz
  have hgl : g + 1 ≤ s1.gens.size := (Array.getElem?_eq_some_iff.mp hgs).1
  have m1 := d.m1
  refine GenW.wpAny_gsz hgl (nextS (A := X.A) (n := 1000 - i) (I.ok.hd hc) I.nolimit hroom (hgen _ (at1 _ ha)) hgs (wake _ ⟨σ1, H, s1, rfl, I, hz, hP, hG⟩) (fun v s2 gs' hbare hS hv hsz => ?_) (fun r s2 hr => ?_))
  · obtain ⟨i', σ2, H2, y, l2, Gok2, hn2, him2, I2, ha2, hz2, n02, hP2, hI2, ry, hG2, hGst2, hkap⟩ := hv
    obtain rfl : i' = i := by omega
    have I3 : L2.Inv X pins σ2 H2 (s2.setGen g gs') := Inv.gens I2 (allBare_setGen I2.bare hbare)
    have hg3 : (s2.setGen g gs').gens[g]? = some gs' := setGen_at (by rw [setGen_size] at hsz; exact hsz)
    have at3 := Fz.get I3.hok hz2
    obtain ⟨fs, hgdf⟩ := hgd
    refine go_of (at3 _ ha2) hcls hgdf (by decide +kernel) ?_
    have dd : L2.Inv X pins σ2 H2 (deadS (s2.setGen g gs')) := Inv.gens I3 (allBare_dead I3.bare)
    refine wpAny_mono (asleep I3.bare (hg.run pins _ σ2 H2 y v _ dd ry (hC i' σ2 H2 y him2 hP2 hI2))) (fun _ s4 h4 => ?_) (fun e s4 h4 => ?_)
    · obtain ⟨s40, k4, σ4, H4, I40, q4⟩ := h4
      have I4 := Inv.kg k4 I40
      have hg4 := k4.was g gs' hg3 hS
      have dd4 : L2.Inv X pins σ4 H4 (deadS s4) := Inv.gens I4 (allBare_dead I4.bare)
      refine wpAny_mono (asleep I4.bare (hb.run pins _ σ4 H4 _ dd4 q4)) (fun f s5 h5 => ?_) (fun e s5 h5 => ?_)
      · obtain ⟨s50, k5, q5⟩ := h5
        have q5' := SP.kg k5 q5
        have hg5 := k5.was g gs' hg4 hS
        have again : ∀ σ5 H5, L2.Inv X pins σ5 H5 s5 → d.Pv (i' + 1) σ5 H5 ∧ KeepB d.F H2 H5 → ∃ m, m < n ∧ ∃ i σ', m + i = 1001 ∧ Slpg X pins d g a go i σ' s5 := fun σ5 H5 I5 ⟨hP5, hk5⟩ => by
          obtain ⟨xs, hFx⟩ := hF i' σ2 H2 hP2
          have hz5 : Fz H5 l2 := fun p hp => hk5 _ _ (hz2 p hp) fun z => by
            have := hz2 p hp
            rw [z, hFx] at this
            cases this
          have hG5 : Gok2 H5 := hGst2 _ _ hG2 hk5
          refine ⟨n - 1, by omega, i' + 1, σ5, by omega, H5, l2, Gok2, gs', I5, ha2, hz5, n02, hP5, hG5, hGst2, hg5, him2, fun s'' hw => ?_⟩
          have := hkap .none s'' (.inl rfl) hw
          rw [show 1000 - i' = (1000 - (i' + 1)) + 1 by omega] at this
          exact this
        cases f with
        | next => obtain ⟨σ5, H5, I5, q⟩ := q5'; exact again σ5 H5 I5 q
        | cont => obtain ⟨σ5, H5, I5, q⟩ := q5'; exact again σ5 H5 I5 q
        | brk => obtain ⟨σ5, H5, I5, q⟩ := q5'; exact hR .next s5 ⟨σ5, H5, I5, q⟩
        | ret u => exact hR (.ret u) s5 q5'
      · obtain ⟨s50, _, q⟩ := h5
        exact absurd q (hxe _ _)
    · obtain ⟨s40, _, q⟩ := h4
      exact absurd q (hxe _ _)
  · rcases hr with ⟨hr, σ2, H2, I2, hP2⟩ | ⟨_, _, z⟩
    · refine ⟨hr, fun h' hk hsz => ?_⟩
      refine wpAny_execs_nil ?_
      refine hR .next _ ⟨σ2, H2, ?_, hD σ2 H2 hP2⟩
      have I3 : L2.Inv X pins σ2 H2 (s2.setGen g .finished) := Inv.gens I2 (allBare_setGen I2.bare rfl)
      exact I3.kept (t' := s2.toks) hk
    · exact z.elim
end
end K45
/-! ## G8 -/
namespace K45
open PySem PySem.Spec PyProof.Rows L2 GenW
section
variable {X : Cx} {k : Nat} {gname qual : Str} {params : Arguments} {st1 : Stmt} {tg2 iter2 ey : Expr} {yp ep fp : Pos} {scope : Scope} {f : Addr} {fd : FuncData} {N ps : List Str}
/-- the body of such a generator def -/
abbrev gBody (st1 : Stmt) (tg2 iter2 ey : Expr) (yp ep fp : Pos) : List Stmt := [st1, .For tg2 iter2 [.Expr (.Yield (some ey) yp) ep] [] fp]
/-- the parts of such a def, in each of its frames -/
structure GParts (X : Cx) (k : Nat) (N : List Str) (qual : Str) (scope : Scope) (f : Addr) (st1 : Stmt) (tg2 iter2 ey : Expr) (t1 : TS) (wi : TI) (gt : TG) (te : TE) : Prop where
  p1 : ∀ (L : Addr) (cd : Value) (a : Nat) (go : Obj) (s3 : Shared) (HU : Hp), Room k (GXat X N qual scope L f cd a go s3 HU).A → PS (GXat X N qual scope L f cd a go s3 HU) st1 t1
  p2 : ∀ (L : Addr) (cd : Value) (a : Nat) (go : Obj) (s3 : Shared) (HU : Hp), Room k (GXat X N qual scope L f cd a go s3 HU).A → PI (GXat X N qual scope L f cd a go s3 HU) tg2 iter2 wi
  p3 : ∀ (L : Addr) (cd : Value) (a : Nat) (go : Obj) (s3 : Shared) (HU : Hp), Room k (GXat X N qual scope L f cd a go s3 HU).A → PG (GXat X N qual scope L f cd a go s3 HU) tg2 gt
  p4 : ∀ (L : Addr) (cd : Value) (a : Nat) (go : Obj) (s3 : Shared) (HU : Hp), Room k (GXat X N qual scope L f cd a go s3 HU).A → PE (GXat X N qual scope L f cd a go s3 HU) ey te
  fold : ∀ (env : Env) x, foldedSetIterable iter2 env x = pure x
  inter : ∀ (L : Addr) (cd : Value), interactive (envOfC qual scope L f cd) = false
theorem ps_forGen {tgc : Expr} {e : Expr} {es : List Expr} {bodyc : List Stmt} {p pos fpos : Pos} {targs : TA} {t1 : TS} {wi : TI} {gt : TG} {te : TE} {gc : TG} {tb : TS} (hxe : ∀ e s, ¬ X.xe e s) (hc : X.calm = true) (hr : Room (k + 2) X.A)
    (F : FunD X.K gname qual params (gBody st1 tg2 iter2 ey yp ep fp) scope [] [] f fd) (hm : X.mg gname = some (.ref f)) (hbn : Binds X.K fd ps []) (S : GScope N ps scope) (hgl : Gl X gname)
    (GP : GParts X k N qual scope f st1 tg2 iter2 ey t1 wi gt te) (ha : PA X (e :: es) targs) (hg : PG X tgc gc) (hb : PSs X bodyc tb)
    (hdb : (gname == ("__debug__" : Str)) = false := by decide) (he : starEach (e :: es) X.env = (false, eval e X.env) :: starEach es X.env := by rfl) (hpl : (backTo pos (starEach es X.env)).any (·.1) = false := by rfl)
    (hs : ∀ x, foldedSetIterable (.Call (.Name gname p) (e :: es) [] pos) X.env x = pure x := by intro _; rfl) :
    PS X (.For tgc (.Call (.Name gname p) (e :: es) [] pos) bodyc [] fpos) (tForG N ps targs t1 wi gt te gc tb) := by
  obtain ⟨oc, od, dV, kV, doc, pm, an, cdv, ct, osl, rfl, lk, hcd, _, _⟩ := F.ex
  refine ⟨fun pins s σ H D I h => ?_⟩
  have hroom : X.A.depth < recursionLimit := by have := hr.dp; omega
  have hh : X.A.handled = none := I.ok.hd hc
  refine wpAny_For ?_ hs
  refine wpAny_Call_Name_kw (ld_glob I hgl hm ?_ hdb)
  refine PySem.W.callWith_K (h₀ := X.base) I.ok.mod.kin F.kp (thn (ha.run pos pins s σ H _ I h) fun us s1 ⟨vs, H1, I1, r, hl, d, GA, hH1, hGA, hGAst, hG1, hGT, hP0, hF, hC, hD⟩ => ⟨I1.kIn, ?_⟩) he hpl
  have hul : us.length = ps.length := by rw [← r.length]; exact hl
  have hb1 := hbn s1 us I1.kIn (by rw [List.append_nil]; exact hul)
  rw [List.append_nil] at hb1
  refine wpAny_call (codeAny_mono (made (N := N) lk hcd S hh hroom I1.env0 hb1 r hl) fun q s2 hq => ?_)
  obtain ⟨a, g, go, rfl, M⟩ := hq
  show wpAny _ _ (pyIter (.ref a)) _ _ s2
  obtain ⟨mLa, mob, mgen, mcls, mgd, mfresh, mos, mbare, mkp, mfr, mge⟩ := M
  refine wpAny_pyIter_gen (mgen _ mob) ?_
  -- the generator stands; it sleeps
  generalize hL : s1.heap.objs.size = L at mLa mfresh mfr mge
  have I2 : L2.Inv X pins σ H1 s2 := I1.call' (ch := []) mos (Un.kept mkp) (I1.hok.kept mkp) mbare fun b z => by simp at z
  have B : Below X pins L := by
    rw [← hL]
    refine ⟨I1.lt, fun x c e' => ?_, fun p' hp' => Heap.lt_size (I1.pin p' hp').1⟩
    obtain ⟨v, z⟩ := I1.cell x c e'
    exact z.lt
  have La : L < a := mLa
  have fresh : ∀ b, L ≤ b → H1 b = none := fun b hb' => I1.hok.fresh (by rw [hL]; exact hb')
  obtain ⟨⟨mL, hnL, hlook⟩, hcell, hlen⟩ := id mfr
  generalize hl0 : (a, go) :: pinsAt (L :: cellA (envOfC qual scope L f cdv)) s2.heap = l0
  have inl : ∀ b, b ∈ L :: cellA (envOfC qual scope L f cdv) → ∀ o, s2.heap.get? b = some o → (b, o) ∈ l0 := fun b hb' o e' => by
    rw [← hl0]; exact List.mem_cons_of_mem _ (mem_pinsAt hb' e')
  have hlp : ∀ p ∈ l0, s2.heap.get? p.1 = some p.2 ∧ H1 p.1 = none ∧ L ≤ p.1 := fun p' hp => by
    rw [← hl0] at hp
    rcases List.mem_cons.mp hp with z | z
    · rw [z]; exact ⟨mob, fresh a (Nat.le_of_lt La), Nat.le_of_lt La⟩
    · obtain ⟨hb', e'⟩ := of_pinsAt z
      have hge : L ≤ p'.1 := by
        rcases List.mem_cons.mp hb' with y | y
        · rw [y]; exact Nat.le_refl _
        · obtain ⟨x', ex⟩ := mem_cellA.mp y
          exact mge.cab x' _ ex
      exact ⟨e', fresh _ hge, hge⟩
  have n0 : ∀ p ∈ l0, ∀ o u, X.H_0 p.1 ≠ some (.frz o u) := fun p' hp o u e' => by
    have := I2.base.frzs _ _ _ e'
    rw [(hlp p' hp).2.1] at this; cases this
  have low : LowH H1 L := fun b hb' => Nat.not_le.mp fun z => hb' (fresh b z)
  have low' : LowH d.H1 L := by rw [hH1]; exact low
  have GS : GStat X pins d qual scope L f cdv a g go := ⟨B, mge, I1.ok.frames, hh, La, low', fun v z => by
    obtain ⟨fs, hfs⟩ := mgd
    rw [hfs] at z; cases z⟩
  have I3 := Inv.fz I2 B hlp
  have hnone : ∀ p ∈ l0, H1 p.1 = none := fun p' hp => (hlp p' hp).2.1
  refine for_gen (g := g) (d := d) hxe hc hroom mgen mcls mgd hg hb hF hC hD (R := fun r s' => match r with | .ok f => SP X pins D f s' | .error e => cameBackBy (model X.prog X.w) X.A X.env X.xe e s') (fun f s' q => q) s2 σ
    ⟨fzH H1 l0, l0, GA, _, I3, by rw [← hl0]; exact List.mem_cons_self, fz_Fz fun p' hp => (hlp p' hp).1, n0, d.pst L low' _ _ _ _ hP0 (fz_x hnone), hGAst L low _ _ hGA (KeepX.of (fz_x hnone)), fun H H' z k => hGAst L low H H' z (KeepX.ofB k), mfresh, Nat.zero_le _, fun s'' hwk => ⟨rfl, ?_⟩⟩
  -- its first waking
  obtain ⟨σ', H', s6, rfl, I6, hz, hP6, hG6⟩ := hwk
  have at6 := Fz.get I6.hok hz
  have I7 := Inv.unfz I6 hz n0
  have k56 : ∀ b, b ∈ L :: cellA (envOfC qual scope L f cdv) → ∀ o, s2.heap.get? b = some o → s6.heap.get? b = some o := fun b hb' o e' => at6 _ (inl b hb' o e')
  have hL6 : L < s6.heap.objs.size := by
    obtain ⟨oL, _, _, eL, _⟩ := id hnL
    exact Heap.lt_size (k56 L List.mem_cons_self oL eL)
  have un0 : ∀ b, b ∈ L :: cellA (envOfC qual scope L f cdv) → (∃ o, s2.heap.get? b = some o) → unH H' l0 b = none := fun b hb' ⟨o, e'⟩ => un_in (inl b hb' o e')
  have frin : ∀ b, FrA (envOfC qual scope L f cdv) b → b ∈ L :: cellA (envOfC qual scope L f cdv) := fun b hb' => by
    rcases hb' with z | z
    · rw [z]; exact List.mem_cons_self
    · exact List.mem_cons_of_mem _ (mem_cellA.mpr z)
  have frobj : ∀ b, FrA (envOfC qual scope L f cdv) b → ∃ o, s2.heap.get? b = some o := fun b hb' => by
    rcases hb' with z | ⟨x', z⟩
    · obtain ⟨oL, _, _, eL, _⟩ := id hnL
      exact ⟨oL, by rw [z]; exact eL⟩
    · obtain ⟨v', o, ho, _⟩ := hcell x' b z
      exact ⟨o, ho⟩
  have J7 := wakeInv (pn := [(a, go)]) (ip := []) (A := X.A.in1) I7 B hL6 mge I1.ok.frames hh (mfr.keep fun b hb' o e' => k56 b (frin b hb') o e') (fun b hb' => un0 b (frin b hb') (frobj b hb')) (fun p' hp => by
    have hp' : p' = (a, go) := by simpa using hp
    rw [hp']
    have ha' : (a, go) ∈ l0 := by rw [← hl0]; exact List.mem_cons_self
    exact ⟨at6 _ ha', un_in ha', Nat.ne_of_gt La, Nat.le_of_lt La, GS.gd⟩)
  have J8 : L2.Inv (GXat X N qual scope L f cdv a go s6 (unH H' l0)) [] (start N vs) (unH H' l0) (s6.setGen g .running) := Inv.gens J7 (allBare_setGen J7.bare rfl)
  have hrG : Room k (GXat X N qual scope L f cdv a go s6 (unH H' l0)).A := (Room.in1 hr).deeper _
  have hGA' : GA (unH H' l0) := hGAst L low _ _ hG6 (KeepX.of (un_x hz fun p hp => (hlp p hp).2.2))
  refine seg_func ?_
  refine seg_execs_cons ?_
  refine seg_wrap ?_
  rw [GenW.over_func]
  refine wpAny_mono ((GP.p1 L cdv a go s6 (unH H' l0) hrG).run [] _ _ _ _ J8 (hG1 _ _ (d.pst L low' _ _ _ _ hP6 (un_x hz fun p hp => (hlp p hp).2.2)) hGA')) (fun fl s7 h7 => ?_) fun _ _ z => z.elim
  cases fl with
  | brk => obtain ⟨_, _, _, q⟩ := h7; exact q.elim
  | cont => obtain ⟨_, _, _, q⟩ := h7; exact q.elim
  | ret u => obtain ⟨_, _, _, _, _, q⟩ := h7; exact q.elim
  | next =>
    obtain ⟨σ1, H3, J9, hs1, hwi⟩ := h7
    show Seg _ _ _ _ _ _ _ ((execs [_] (envOfC qual scope L f cdv)).wrap _ _ id id) [] s7
    refine seg_execs_cons ?_
    refine seg_For (GP.fold _) ?_
    rw [GenW.over_func]
    refine wpAny_mono ((GP.p2 L cdv a go s6 (unH H' l0) hrG).run [] s7 σ1 H3 _ J9 hwi) (fun x s8 h8 => ?_) fun _ _ z => z
    refine wpAny_mono h8 (fun itv s9 h9 => ?_) fun _ _ z => z
    obtain ⟨it, fpl, tn, J, H4, rfl, J10, T, st0, hfp, hs2, hGW⟩ := h9
    intro p'
    refine gen_loop (g := g) GS hGT (fun s3 HU => ?_) (fun s3 HU => ?_) S.co (GP.inter L cdv) rfl d.m 0 1000 _ s9 J it fpl tn (Nat.zero_add _) rfl T
      ⟨σ', unH H' l0, s6, σ1, H4, I7, hL6, J10, hs1.trans hs2, d.pst L low' _ _ _ _ hP6 (un_x hz fun p hp => (hlp p hp).2.2), hGW, st0, hfp⟩
    · exact GP.p3 L cdv a go s3 HU ((Room.in1 hr).deeper _)
    · exact GP.p4 L cdv a go s3 HU ((Room.in1 hr).deeper _)
end
end K45
/-! ## X3 -/
namespace K45
open PySem PySem.Spec PyProof.Rows L2
/-! ### {a, b} of two ints -/
section
variable {P : Program} {w : World} {A : Around} {E : Value → Shared → Prop} {s : Shared}
theorem newSetR {Q : Value → Shared → Prop} (h : Q (.ref s.heap.objs.size) { s with heap := s.heap.push { cls := .type "set", dict := none, data := .set #[] 0 (.fresh 0 0 (!w.params.followText "set-order")) } }) : wpAny (model P w) A (newSet (.type "set")) Q E s := by
  unfold newSet setsByText
  refine wpAny_bind (wpAny_bind (wpAny_askSetting (wpAny_pure ?_)))
  dsimp only
  simp only [newObj]
  exact wpAny_bind (wpAny_alloc (wpAny_pure h))
theorem display2 {b : Bool} {t1 t2 : Sem Value} {Q : Value → Shared → Prop}
    (h : wpAny (model P w) A (evalAll [t1, t2]) (fun vs s' => PySem.W.KdsFill (model P w) A E false s.heap.objs.size Q vs s') E { s with heap := s.heap.push { cls := .type "set", dict := none, data := .set #[] 0 (.fresh 0 0 (!w.params.followText "set-order")) } }) :
    wpAny (model P w) A (setDisplay .oneByOne b [(false, t1), (false, t2)]) Q E s := by
  unfold setDisplay
  try dsimp only
  rw [if_neg (by decide)]
  refine wpAny_bind (newSetR ?_)
  try dsimp only
  refine wpAny_bind (wpAny_holding ?_)
  refine wpAny_bind (wpAny_mono (show wpAny (model P w) A (evalAll [t1, t2]) _ _ _ from h) (fun vs s' h' => ?_) fun _ _ x => x)
  refine wpAny_bind (wpAny_holding ?_)
  refine wpAny_bind (wpAny_mono (PySem.W.kds_for (fun x P s hx => ?_) vs s' h') (fun _ s1 h1 => ?_) fun _ _ x => x)
  · refine wpAny_bind (wpAny_mono hx (fun _ s2 h2 => ?_) fun _ _ x => x)
    first | exact wpAny_pure ⟨rfl, h2⟩ | exact wpAny_bind (wpAny_pure (wpAny_pure ⟨rfl, h2⟩))
  · have h2 : Q (.ref s.heap.objs.size) s1 := by simpa [PySem.W.KdsFill] using h1
    rw [if_neg (by decide)]
    refine wpAny_pure ?_
    show wpAny _ _ (forIn ([] : List (Bool × Sem Value)) _ _ >>= _) _ _ _
    rw [List.forIn_nil]
    exact wpAny_pure (wpAny_pure h2)
theorem setAddR {a : Addr} {k : Int} {tk : Tok} {S : Int → Bool} {n : Nat} {Q : Bool → Shared → Prop} (R : SetR w s.heap a S n) (room : n + 1 < scanBound)
    (hQ : ∀ h', Heap.SameBut a s.heap h' → SetR w h' a (fun j => S j || decide (j = k)) (if S k = true then n else n + 1) → Q (!S k) { s with heap := h', toks := s.toks + 1 }) :
    wpAny (model P w) A (setAdd a (.int k tk)) Q E s := by
  unfold setAdd
  refine wpAny_holding ?_
  refine wpAny_bind ((intKind P w).pyHash (intKind_is P w k tk) ?_)
  exact setR_add_hashed (P := P) (s := { s with toks := s.toks + 1 }) R room fun h' sb r => hQ h' sb r
end
def tSet2 (w : World) (ta tb : TE) : TE := fun σ H Q => ∀ p, H p = none → ta σ (upd H p (SetO w p (fun _ => false) 0)) fun x H1 => tb σ H1 fun y H2 => ∃ i j : Int, x = .int i ∧ y = .int j ∧ H2 p = some (SetO w p (fun _ => false) 0) ∧
  Q (.ref p) (upd H2 p (SetO w p (fun k => decide (k = i) || decide (k = j)) (if i = j then 1 else 2)))
section
variable {X : Cx}
theorem setO_add {pins : List (Addr × Obj)} {σ : L2.St} {H : Hp} {s : Shared} {A : Around} {E : Value → Shared → Prop} {a : Addr} {k : Int} {tk : Tok} {S : Int → Bool} {n : Nat} {Q : Bool → Shared → Prop} (I : L2.Inv X pins σ H s) (ha : H a = some (SetO X.w a S n)) (room : n + 1 < scanBound)
    (hQ : ∀ s', L2.Inv X pins σ (upd H a (SetO X.w a (fun j => S j || decide (j = k)) (if S k = true then n else n + 1))) s' → Q (!S k) s') : wpAny (model X.prog X.w) A (setAdd a (.int k tk)) Q E s := by
  refine setAddR (P := X.prog) (setO_get I ha) room fun h' sb new => hQ _ ?_
  have he : ∃ u, h'.get? a = some u := by
    have ⟨o, _, _, _, ho, _⟩ := new
    exact ⟨o, ho⟩
  exact I.write (e := a) (t' := s.toks + 1) (by rw [ha]; trivial) (.inl rfl) (fun b u hb hu => (sb.2 b hb).trans hu) he (setO_new new)
theorem SetR.congrN {w : World} {h : Heap} {a : Addr} {S S' : Int → Bool} {n n' : Nat} (R : SetR w h a S n) (e : ∀ k, S' k = S k) (en : n' = n) : SetR w h a S' n' := by
  subst en
  exact R.congr e
theorem pe_set2 {a b : Expr} {ta tb : TE} {pos : Pos} (hcd : PySem.W.kdsCode X.K X.env.code = true) (ha : PE X a ta) (hb : PE X b tb) (na : starEach [a, b] X.env = [(false, eval a X.env), (false, eval b X.env)] := by rfl) :
    PE X (.Set [a, b] 0 pos) (tSet2 X.w ta tb) := by
  refine ⟨fun pins s σ H Q I h => ?_⟩
  rw [arm_eval_Set, na]
  refine wpAny_bind (wpAny_standAt ?_)
  refine wpAny_bind (PySem.W.kds_main I.kIn hcd fun bb => ?_)
  show wpAny _ _ (setDisplay .oneByOne bb [(false, do let v ← eval a X.env; standAt pos; pure v), (false, do let v ← eval b X.env; standAt pos; pure v)]) _ _ _
  refine display2 ?_
  have hn : H s.heap.objs.size = none := I.hok.fresh (Nat.le_refl _)
  have I1 : L2.Inv X pins σ (upd H s.heap.objs.size (SetO X.w s.heap.objs.size (fun _ => false) 0)) { s with heap := s.heap.push { cls := .type "set", dict := none, data := .set #[] 0 (.fresh 0 0 (!X.w.params.followText "set-order")) } } :=
    I.laid (t' := s.toks) (fun b u e => Heap.get?_push_of_some _ e) (Nat.le_refl _) (setO_new (setR_fresh X.w))
  refine PyProof.Rows.evalAll_cons ?_
  refine wpAny_bind (thn (ha.run pins _ σ _ _ I1 (h _ hn)) fun v s2 ⟨x, H2, I2, r2, q2⟩ => ?_)
  refine wpAny_bind (wpAny_standAt (wpAny_pure ?_))
  refine PyProof.Rows.evalAll_cons ?_
  refine wpAny_bind (thn (hb.run pins _ σ _ _ I2 q2) fun u s3 ⟨y, H3, I3, r3, i, j, ex, ey, hp, q3⟩ => ?_)
  refine wpAny_bind (wpAny_standAt (wpAny_pure ?_))
  refine PyProof.Rows.evalAll_nil ?_
  subst ex ey
  obtain ⟨t1, rfl⟩ := r2
  obtain ⟨t2, rfl⟩ := r3
  refine PySem.W.kds_fill_cons (setO_add I3 hp (by decide) fun s4 I4 => ?_)
  refine PySem.W.kds_fill_cons (setO_add I4 upd_same (by simp only [Bool.false_eq_true, if_false]; decide) fun s5 I5 => ?_)
  refine PySem.W.kds_fill_nil rfl ?_
  rw [upd_upd] at I5
  refine ⟨.ref _, _, ?_, rfl, q3⟩
  have e1 : (fun k => decide (k = i) || decide (k = j)) = (fun k => (false || decide (k = i)) || decide (k = j)) := by
    funext k; simp
  have e2 : (if i = j then 1 else 2) = (if (false || decide (j = i)) = true then (if false = true then 0 else 0 + 1) else (if false = true then 0 else 0 + 1) + 1) := by
    by_cases c : i = j
    · subst c; simp
    · rw [if_neg c]
      have : ¬ j = i := fun z => c z.symm
      simp [this]
  rw [e1, e2]
  exact I5
end
/-- a def, its code object known -/
theorem cl_ofC {P : Program} {w : World} {K : PySem.W.Frag} {mg : Str → Option Value} {base : Heap} {CX : CXT} {x : Str} {st : Stmt} {N ps : List Str} {k : Nat} {sp : Sp} (D : DefAt K mg x st) (B : BindOk x st ps) (S : FnScope N ps (defScope st)) (len : ∀ vs H Q E, sp vs H Q E → vs.length = ps.length)
    (hbody : ∀ (f : Addr) (cdv : Value) (A : Around) (outer : List Env) (s : Shared) (H : Hp) (vs : List V) (Q : VK) (E : XK), PySem.W.kdsCode K cdv = true → Room k (A.deeper (envOfC x (defScope st) s.heap.objs.size f cdv)) → sp vs H Q E →
      ∃ t, PSs (cxOf CX P w K mg base N x (defScope st) f cdv A outer s H E) (defBody st) t ∧ t { nx := fun _ H' => Q .non H', rt := Q } (start N vs) H) : Cl P w K mg base CX (k + 1) x sp := by
  obtain ⟨f, fd, F, hm⟩ := D.ex
  have hcd : ∃ cdv : Value, PySem.W.kdsCode K cdv = true ∧ FnOk P w K mg base CX (k + 1) f fd ps sp := by
    obtain ⟨oc, od, dV, kV, doc, pm, an, cdv, ct, osl, rfl, lk, hcd, _, _⟩ := F.ex
    exact ⟨cdv, kdsCode_of hcd, fn_of lk hcd S len fun A outer s H vs Q E hr hsp => hbody f cdv A outer s H vs Q E (kdsCode_of hcd) hr hsp⟩
  obtain ⟨_, _, hf⟩ := hcd
  exact ⟨f, fd, ps, hf, hm, F.kp, F.bindsN B⟩
end K45
/-! ## MCuts -/
namespace K45
theorem sorted_unique : ∀ {l l' : List Int}, l.Pairwise (· < ·) → l'.Pairwise (· < ·) → (∀ k, k ∈ l ↔ k ∈ l') → l = l'
  | [], [], _, _, _ => rfl
  | [], b :: r, _, _, h => absurd ((h b).mpr List.mem_cons_self) (by simp)
  | a :: l, [], _, _, h => absurd ((h a).mp List.mem_cons_self) (by simp)
  | a :: l, b :: r, h1, h2, h => by
    obtain ⟨p1, q1⟩ := List.pairwise_cons.mp h1
    obtain ⟨p2, q2⟩ := List.pairwise_cons.mp h2
    have e : a = b := by
      have x := (h a).mp List.mem_cons_self
      have y := (h b).mpr List.mem_cons_self
      rcases List.mem_cons.mp x with x | x
      · exact x
      · rcases List.mem_cons.mp y with y | y
        · exact y.symm
        · have := p1 b y
          have := p2 a x
          omega
    subst e
    rw [sorted_unique q1 q2 fun k => ?_]
    have hk := h k
    rw [List.mem_cons, List.mem_cons] at hk
    constructor
    · intro z
      rcases hk.mp (.inr z) with w | w
      · have := p1 k z
        omega
      · exact w
    · intro z
      rcases hk.mpr (.inr z) with w | w
      · have := p2 k z
        omega
      · exact w
theorem Cuts.uniq {f : Fo} {last : Int} {sl : List Sl} {ns ns' : List Int} (a : Cuts f last sl ns) (b : Cuts f last sl ns') : ns = ns' :=
  sorted_unique a.up b.up fun k => (a.mem k).trans (b.mem k).symm
open Classical in
noncomputable def cutsOf (f : Fo) (last : Int) (sl : List Sl) : List Int :=
  ((List.range (last.toNat + 1)).map fun (k : Nat) => (k : Int) + 1).filter fun k => decide (k = 1 ∨ k = last + 1 ∨ ∃ s ∈ sl, ∃ e, expOf f s.num s.den < e ∧ e ≤ expOf f (s.num * last) s.den ∧ k = startOf f s e)
theorem up_range : ∀ n : Nat, ((List.range n).map fun (k : Nat) => (k : Int) + 1).Pairwise (· < ·) := by
  intro n
  rw [List.pairwise_map]
  exact List.Pairwise.imp (fun {a b} (h : a < b) => by omega) List.pairwise_lt_range
theorem cutsOf_ok {f : Fo} {last : Int} {sl : List Sl} (hl : 1 ≤ last) (hs : ∀ s ∈ sl, s.Ok) : Cuts f last sl (cutsOf f last sl) where
  up := (up_range _).sublist List.filter_sublist
  mem := fun k => by
    classical
    unfold cutsOf
    rw [List.mem_filter, decide_eq_true_eq]
    refine ⟨fun h => h.2, fun h => ⟨?_, h⟩⟩
    have r : 1 ≤ k ∧ k ≤ last + 1 := by
      rcases h with h | h | ⟨s, h1, e, h2, h3, h4⟩
      · omega
      · omega
      · have r := expOf_range f s.num s.den
        have r2 := expOf_range f (s.num * last) s.den
        have a := (start_exp (f := f) (hs s h1) (e := e) (x := last) (by omega) (by omega) (by omega)).mpr h3
        have b : ¬ startOf f s e ≤ 1 := fun z => by
          have q := (start_exp (f := f) (hs s h1) (e := e) (x := 1) (by omega) (by omega) (by omega)).mp z
          rw [Int.mul_one] at q
          omega
        omega
    refine List.mem_map.mpr ⟨(k - 1).toNat, List.mem_range.mpr (by omega), by omega⟩
theorem cutsOf_len (f : Fo) (last : Int) (sl : List Sl) : (cutsOf f last sl).length ≤ last.toNat + 1 := by
  unfold cutsOf
  refine Nat.le_trans (List.length_filter_le ..) ?_
  rw [List.length_map, List.length_range]
  exact Nat.le_refl _
end K45
/-! ## W9 -/
namespace K45
open PySem PySem.Spec PyProof.Rows L2
structure SlC (s : Sl) : Prop where
  b : SlB s
  n2 : s.num < 2 ^ 52
/-- the tuple of two slopes -/
def SlsAt (H : Hp) (a : Addr) (s1 s2 : Sl) : Prop := ∃ a1 a2, H a = some (.tup [.ref a1, .ref a2]) ∧ SlAt H a1 s1 ∧ SlAt H a2 s2
theorem SlsAt.same {H H' : Hp} {a : Addr} {s1 s2 : Sl} (s : Same H H') (h : SlsAt H a s1 s2) : SlsAt H' a s1 s2 := by
  obtain ⟨a1, a2, h1, h2, h3⟩ := h
  exact ⟨a1, a2, s _ _ h1, s _ _ h2, s _ _ h3⟩
def lastOf (word : Nat) : Int := 2 ^ word - 1
theorem lastOf_b {word : Nat} (h1 : 1 ≤ word) (h8 : word ≤ 8) : 1 ≤ lastOf word ∧ lastOf word ≤ 255 := by
  unfold lastOf
  have a := p2mono (a := 1) (b := word) h1
  have b := p2mono (a := word) (b := 8) h8
  have e : (2 : Int) ^ 1 = 2 := by decide
  have e2 : (2 : Int) ^ 8 = 256 := by decide
  rw [e] at a
  rw [e2] at b
  omega
def spCuts : Sp := fun vs H Q _ => ∃ (a sa : Addr) (f : Fo) (word : Nat) (s1 s2 : Sl), vs = [.ref a, .int (word : Int), .ref sa] ∧ FoAt H a f ∧ FoB f ∧ 1 ≤ word ∧ word ≤ 8 ∧ SlsAt H sa s1 s2 ∧ SlC s1 ∧ SlC s2 ∧
  ∀ H' p, Same H H' → H p = none → H' p = some (.lst ((cutsOf f (lastOf word) [s1, s2]).map V.int)) → Q (.ref p) H'
/-- what the set holds -/
def CutS (f : Fo) (last : Int) (sl : List Sl) (S : Int → Bool) : Prop := ∀ k, S k = true ↔ k = 1 ∨ k = last + 1 ∨ ∃ s ∈ sl, ∃ e, expOf f s.num s.den < e ∧ e ≤ expOf f (s.num * last) s.den ∧ k = startOf f s e
theorem mul_b {n x : Int} (h0 : 0 < n) (h1 : n < 2 ^ 52) (x0 : 0 < x) (x1 : x ≤ 256) : 0 < n * x ∧ n * x < 2 ^ 62 := by
  refine ⟨Int.mul_pos h0 x0, ?_⟩
  have h2 : n * x ≤ n * 256 := Int.mul_le_mul_of_nonneg_left x1 (by omega)
  have h3 : n * 256 < 2 ^ 52 * 256 := Int.mul_lt_mul_of_pos_right h1 (by decide)
  have e : (2 : Int) ^ 52 * 256 = 2 ^ 60 := by decide
  have e2 : (2 : Int) ^ 60 < 2 ^ 62 := by decide
  omega
section
variable {P : Program} {w : World} {K : PySem.W.Frag} {mg : Str → Option Value} {base : Heap}
theorem sc_cuts_of : FnScope ["form", "word", "slopes", "last", "found", "num", "den", "exponent"] ["form", "word", "slopes"] (defScope s_cuts_of) := ⟨rfl, rfl, rfl, by decide +kernel, rfl, by decide +kernel, by decide +kernel⟩
theorem cl_cuts_of (D : DefAt K mg "cuts_of" s_cuts_of) (g_range : mg "range" = none) (g_sorted : mg "sorted" = none) (c_exponent_of : Cl P w K mg base CX0 3 "exponent_of" spExp) (c_start_of : Cl P w K mg base CX0 1 "start_of" spStart) : Cl P w K mg base CX0 4 "cuts_of" spCuts := by
  refine cl_ofC D (fun _ _ _ _ _ _ us hl => match us, hl with | [_, _, _], _ => rfl) sc_cuts_of (fun vs H Q E h => ?_) (fun fa cdv A outer s H vs Q E hcd hr h => ?_)
  · obtain ⟨a, sa, f, wd, s1, s2, rfl, _⟩ := h
    rfl
  · obtain ⟨a, sa, f, wd, s1, s2, rfl, hf, hb, w1, w8, hsl, b1, b2, hQ⟩ := h
    obtain ⟨l1, l2⟩ := lastOf_b w1 w8
    have J8 := hb.J8
    have lo0 := hb.l0
    have lo1 := hb.l1
    have hJ : f.high = f.low + f.J := by unfold Fo.high; omega
    refine ⟨_, PSs.nox (pss_cons (ps_set (i := 3) sc_cuts_of.nd rfl (Or.inl rfl) (pe_op op_sub (pe_op op_shl pe_int (pv 1)) pe_int))
      (pss_cons (ps_set (i := 4) sc_cuts_of.nd rfl (Or.inl rfl) (pe_set2 hcd pe_int (pe_op op_add (pv 3) pe_int)))
      (pss_cons (ps_for PassesOwn.never rfl (pi_tup (pv 2)) (pg_tup rfl (pgs_cons (pg_name (i := 5) sc_cuts_of.nd rfl (Or.inl rfl)) (pgs_cons (pg_name (i := 6) sc_cuts_of.nd rfl (Or.inl rfl)) pgs_nil)))
        (pss_one (ps_for PassesOwn.never rfl (pi_range2 (by rfl) g_range (pa_cons (pe_op op_add (pe_cl c_exponent_of hr (by decide) pass0 (pa_cons (pv 0) (pa_cons (pv 5) (pa_cons (pv 6) pa_nil)))) pe_int) (pa_cons (pe_op op_add (pe_cl c_exponent_of hr (by decide) pass0 (pa_cons (pv 0) (pa_cons (pe_op op_mul (pv 5) (pv 3)) (pa_cons (pv 6) pa_nil)))) pe_int) pa_nil))) (pg_name (i := 7) sc_cuts_of.nd rfl (Or.inl rfl))
          (pss_one (ps_expr (pe_sadd (pv 4) (pa_cons (pe_cl c_start_of hr (by decide) pass0 (pa_cons (pv 0) (pa_cons (pe_tup (pa_cons (pv 5) (pa_cons (pv 6) pa_nil))) (pa_cons (pv 7) pa_nil)))) pa_nil)))))))
      (pss_one (ps_ret (pe_callB (cr_sortedSet rfl) (by rfl) g_sorted (by decide +kernel) (pa_cons (pv 4) pa_nil))))))), ?_⟩
    refine ⟨_, rfl, _, _, rfl, rfl, ⟨by omega, by omega, by decide⟩, _, _, rfl, rfl, ?_⟩
    have el : (1 : Int) * 2 ^ ((wd : Int)).toNat - 1 = lastOf wd := by
      unfold lastOf
      rw [Int.one_mul, Int.toNat_natCast]
    show tSeq _ _ _ [some (.ref a), some (.int wd), some (.ref sa), some (.int (1 * 2 ^ ((wd : Int)).toNat - 1)), none, none, none, none] H
    rw [el]
    refine fun P hP => ⟨_, rfl, _, _, rfl, rfl, 1, lastOf wd + 1, rfl, rfl, upd_same, ?_⟩
    rw [upd_upd]
    obtain ⟨a1, a2, hsa, hs1, hs2⟩ := hsl
    have cs0 : CutS f (lastOf wd) ([s1, s2].take 0) (fun k => decide (k = 1) || decide (k = lastOf wd + 1)) := fun k => by
      rw [Bool.or_eq_true, decide_eq_true_eq, decide_eq_true_eq]
      constructor
      · rintro (h | h)
        · exact .inl h
        · exact .inr (.inl h)
      · rintro (h | h | ⟨s, h, _⟩)
        · exact .inl h
        · exact .inr h
        · simp at h
    refine ⟨_, rfl, sa, rfl, ⟨_, SqT.of (same_of_upd hP _ _ hsa)⟩, for_tup (xs := [.ref a1, .ref a2]) (fun i σ H2 => ∃ S n v5 v6 v7, σ = [some (.ref a), some (.int wd), some (.ref sa), some (.int (lastOf wd)), some (.ref P), v5, v6, v7] ∧ Same H H2 ∧
        H2 P = some (SetO w P S n) ∧ n ≤ 2 + 9 * i ∧ CutS f (lastOf wd) ([s1, s2].take i) S)
      ⟨_, _, none, none, none, rfl, same_of_upd hP, upd_same, by split <;> omega, cs0⟩ (fun i σ H2 _ ⟨S, n, v5, v6, v7, e, sm, hS, hn, cs⟩ => SqT.of (sm _ _ hsa)) (fun i x σ H2 hx ⟨S, n, v5, v6, v7, e, sm, hS, hn, cs⟩ => ?_) (fun σ H2 ⟨S, n, v5, v6, v7, e, sm, hS, hn, cs⟩ => ?_)⟩
    · subst e
      obtain ⟨ai, si, hxi, hai, bi, hti⟩ : ∃ (ai : Addr) (si : Sl), x = .ref ai ∧ SlAt H ai si ∧ SlC si ∧ [s1, s2].take (i + 1) = [s1, s2].take i ++ [si] := by
        match i, hx with
        | 0, hx => exact ⟨a1, s1, (Option.some.inj hx).symm, hs1, b1, rfl⟩
        | 1, hx => exact ⟨a2, s2, (Option.some.inj hx).symm, hs2, b2, rfl⟩
      have hi2 : i < 2 := (List.getElem?_eq_some_iff.mp hx).1
      subst hxi
      have r1 := expOf_range f si.num si.den
      have r2 := expOf_range f (si.num * lastOf wd) si.den
      obtain ⟨m0, m1⟩ := mul_b bi.b.n0 bi.n2 (x := lastOf wd) (by omega) (by omega)
      have bn := bi.n2
      have bd := bi.b.d1
      refine ⟨ai, _, rfl, SqT.of (sm _ _ hai), rfl, _, _, rfl, _, _, rfl, rfl, ?_⟩
      refine ⟨_, rfl, _, rfl, _, rfl, a, f, si.num, si.den, rfl, sm _ _ hf, hb, bi.b.n0, by omega, bi.b.d0, by omega, fun H3 q3 => ?_⟩
      refine ⟨_, _, rfl, rfl, _, rfl, _, rfl, _, rfl, _, _, rfl, rfl, .inr ⟨by omega, by omega⟩, _, rfl, a, f, si.num * lastOf wd, si.den, rfl, q3 _ _ (sm _ _ hf), hb, m0, m1, bi.b.d0, by omega, fun H4 q4 => ?_⟩
      refine ⟨_, _, rfl, rfl, _, _, rfl, ⟨by omega, by omega, by omega, by omega⟩, ?_⟩
      have sm4 := (sm.trans q3).trans q4
      have hS4 := q4 _ _ (q3 _ _ hS)
      refine for_range (n := (expOf f (si.num * lastOf wd) si.den + 1 - (expOf f si.num si.den + 1)).toNat) (fun j σ H5 => ∃ S' n' v7, σ = [some (.ref a), some (.int wd), some (.ref sa), some (.int (lastOf wd)), some (.ref P), some (.int si.num), some (.int si.den), v7] ∧ Same H H5 ∧
          H5 P = some (SetO w P S' n') ∧ n' ≤ 2 + 9 * i + j ∧ ∀ k, S' k = true ↔ S k = true ∨ ∃ e, expOf f si.num si.den < e ∧ e < expOf f si.num si.den + 1 + (j : Int) ∧ k = startOf f si e)
        ⟨S, n, _, rfl, sm4, hS4, by omega, fun k => ⟨.inl, fun z => z.elim id fun ⟨e, e1, e2, _⟩ => absurd e1 (by omega)⟩⟩ (fun j σ H5 hj ⟨S', n', v7, e, sm5, hS5, hn5, cs5⟩ => ?_) (fun σ H5 ⟨S', n', v7, e, sm5, hS5, hn5, cs5⟩ => ?_)
      · subst e
        refine ⟨_, rfl, ⟨P, S', n', rfl, hS5⟩, _, rfl, _, rfl, _, rfl, (by show 2 ≤ sizeLine; decide), fun T hT => ?_⟩
        have sT := same_of_upd (o := .tup [V.int si.num, V.int si.den]) hT
        refine ⟨_, rfl, a, T, f, si, _, rfl, sT _ _ (sm5 _ _ hf), hb, upd_same, bi.b, by omega, by omega, ?_⟩
        refine ⟨P, _, S', n', rfl, rfl, sT _ _ hS5, by unfold scanBound; omega, ?_⟩
        refine ⟨_, _, _, rfl, same_up (sm5.trans sT) hP, upd_same, by split <;> omega, fun k => ?_⟩
        rw [Bool.or_eq_true, cs5 k, decide_eq_true_eq]
        constructor
        · rintro ((h | ⟨e, e1, e2, e3⟩) | h)
          · exact .inl h
          · exact .inr ⟨e, e1, by omega, e3⟩
          · exact .inr ⟨_, by omega, by omega, h⟩
        · rintro (h | ⟨e, e1, e2, e3⟩)
          · exact .inl (.inl h)
          · by_cases c : e = expOf f si.num si.den + 1 + (j : Int)
            · rw [c] at e3; exact .inr e3
            · exact .inl (.inr ⟨e, e1, by omega, e3⟩)
      · subst e
        refine ⟨S', n', _, _, _, rfl, sm5, hS5, by omega, fun k => ?_⟩
        rw [cs5 k, cs k, hti]
        constructor
        · rintro ((h | h | ⟨s, h, q⟩) | ⟨e, e1, e2, e3⟩)
          · exact .inl h
          · exact .inr (.inl h)
          · exact .inr (.inr ⟨s, List.mem_append_left _ h, q⟩)
          · exact .inr (.inr ⟨si, List.mem_append_right _ (List.mem_singleton.mpr rfl), e, e1, by omega, e3⟩)
        · rintro (h | h | ⟨s, h, e, e1, e2, e3⟩)
          · exact .inl (.inl h)
          · exact .inl (.inr (.inl h))
          · rcases List.mem_append.mp h with h | h
            · exact .inl (.inr (.inr ⟨s, h, e, e1, e2, e3⟩))
            · rw [List.mem_singleton.mp h] at e1 e2 e3
              exact .inr ⟨e, e1, by omega, e3⟩
    · subst e
      refine ⟨_, rfl, P, S, n, rfl, hS, by have : n ≤ 2 + 9 * 2 := hn; omega, fun ns p up mem len hp => ?_⟩
      have ok : ∀ s ∈ [s1, s2], s.Ok := fun s hs => by
        rcases List.mem_cons.mp hs with rfl | hs
        · exact b1.b.ok
        · rw [List.mem_singleton.mp hs]; exact b2.b.ok
      have ec : ns = cutsOf f (lastOf wd) [s1, s2] := Cuts.uniq (f := f) ⟨up, fun k => (mem k).trans (cs k)⟩ (cutsOf_ok l1 ok)
      rw [ec]
      have hp0 : H p = none := by
        cases e : H p with
        | none => rfl
        | some u => have := sm _ _ e; rw [hp] at this; cases this
      exact hQ _ p (sm.trans (same_of_upd hp)) hp0 upd_same
end
end K45
/-! ## W10 -/
namespace K45
open PySem PySem.Spec PyProof.Rows L2
/-! ### the pieces as a list -/
def pieceOf (pk : Pick) (f : Fo) (w : Way) (lo hi : Int) : Piece := ⟨lo, hi, stairOn pk.k1 f w pk.s1 (expOf f (pk.s1.num * lo) pk.s1.den), stairOn pk.k2 f w pk.s2 (expOf f (pk.s2.num * lo) pk.s2.den)⟩
def piecesOf (pk : Pick) (f : Fo) (w : Way) (ns : List Int) : List Piece := (List.range (ns.length - 1)).map fun i => pieceOf pk f w (ns.getD i 0) (ns.getD (i + 1) 0)
theorem piecesOf_len (pk : Pick) (f : Fo) (w : Way) (ns : List Int) : (piecesOf pk f w ns).length = ns.length - 1 := by
  unfold piecesOf; rw [List.length_map, List.length_range]
theorem piecesOf_at {pk : Pick} {f : Fo} {w : Way} {ns : List Int} {i : Nat} {lo hi : Int} (h1 : ns[i]? = some lo) (h2 : ns[i + 1]? = some hi) : (piecesOf pk f w ns)[i]? = some (pieceOf pk f w lo hi) := by
  have hi1 := (List.getElem?_eq_some_iff.mp h2).1
  unfold piecesOf
  rw [List.getElem?_map, List.getElem?_range (by omega)]
  show some (pieceOf pk f w (ns.getD i 0) (ns.getD (i + 1) 0)) = _
  rw [List.getD_eq_getElem?_getD, List.getD_eq_getElem?_getD, h1, h2]; rfl
theorem cuts_two {f : Fo} {last : Int} {sl : List Sl} {ns : List Int} (c : Cuts f last sl ns) (hl : 1 ≤ last) : 2 ≤ ns.length := by
  have h1 := (c.mem 1).mpr (.inl rfl)
  have h2 := (c.mem (last + 1)).mpr (.inr (.inl rfl))
  match ns, h1, h2 with
  | [], h1, _ => simp at h1
  | [a], h1, h2 =>
    have := List.mem_singleton.mp h1
    have := List.mem_singleton.mp h2
    omega
  | a :: b :: r, _, _ => simp
theorem piecesOf_ok {pk : Pick} {f : Fo} {w : Way} {last : Int} {ns : List Int} (c : Cuts f last [pk.s1, pk.s2] ns) (hl : 1 ≤ last) : Pieces f w pk last ns (piecesOf pk f w ns) where
  cuts := c
  len := by have := cuts_two c hl; rw [piecesOf_len]; omega
  each := fun i q hq => by
    have hi := (List.getElem?_eq_some_iff.mp hq).1
    rw [piecesOf_len] at hi
    have h1 : ns[i]? = some ns[i] := List.getElem?_eq_getElem (by omega)
    have h2 : ns[i + 1]? = some ns[i + 1] := List.getElem?_eq_getElem (by omega)
    rw [piecesOf_at h1 h2] at hq
    obtain rfl := Option.some.inj hq
    exact ⟨_, _, h1, h2, rfl, rfl, rfl, rfl⟩
/-! ### what keeps the tuples -/
def KT (H H' : Hp) : Prop := ∀ b xs, H b = some (.tup xs) → H' b = some (.tup xs)
theorem KT.same {H H' : Hp} (s : Same H H') : KT H H' := fun b xs e => s _ _ e
theorem KT.x {L : Addr} {H H' : Hp} (s : SameX L H H') : KT H H' := fun b xs e => s _ _ e (.inr fun _ _ z => by cases z)
theorem KT.upd {H : Hp} {F : Addr} {xs : List V} {o : HO} (h : H F = some (.lst xs)) : KT H (upd H F o) := fun b ys e => by
  rw [upd_ne fun z => ?_]
  · exact e
  · rw [z, h] at e; cases e
theorem KT.trans {H H1 H2 : Hp} (a : KT H H1) (b : KT H1 H2) : KT H H2 := fun c xs e => b _ _ (a _ _ e)
theorem StAt.kt {H H' : Hp} {a : Addr} {st : List Line} (s : KT H H') (h : StAt H a st) : StAt H' a st := by
  obtain ⟨as, h1, h2⟩ := h
  exact ⟨as, s _ _ h1, Paired.mapP h2 fun x l h => s _ _ h⟩
theorem PcAt.kt {H H' : Hp} {a : Addr} {q : Piece} (s : KT H H') (h : PcAt H a q) : PcAt H' a q := by
  obtain ⟨l, u, h1, h2, h3⟩ := h
  exact ⟨l, u, s _ _ h1, h2.kt s, h3.kt s⟩
theorem cutV_tail (xs : List V) : cutV xs (some 1) none = xs.drop 1 := by
  unfold cutV
  have e1 : HT.sIx xs.length xs.length none = xs.length := rfl
  have e2 : HT.sIx xs.length 0 (some 1) = min 1 xs.length := HT.sIx_nat xs.length 0 1
  rw [e1, e2]
  cases xs with
  | nil => rfl
  | cons x r =>
    have : min 1 (x :: r).length = 1 := by rw [List.length_cons]; omega
    rw [this]
    show List.take ((x :: r).length - 1) r = r
    rw [List.length_cons, Nat.add_sub_cancel, List.take_length]
/-! ### the generator pieces -/
theorem sc_pieces : GScope ["form", "word", "slopes", "cuts", "low", "high", "num", "den"] ["form", "word", "slopes"] (defScope s_pieces) := ⟨rfl, rfl, rfl, by decide +kernel, rfl, by decide +kernel, by decide +kernel⟩
abbrev piN : List Str := ["form", "word", "slopes", "cuts", "low", "high", "num", "den"]
abbrev piT1 : TS := tAsg (tCall spCuts [] E0 (tCons (tVar 0) (tCons (tVar 1) (tCons (tVar 2) tNil)))) (gName 3)
abbrev piWi (K : PySem.W.Frag) : TI := iZip K (tCons (tVar 3) (tCons (tSl (rSlL K) (tVar 3) (tPart (tC (.int 1))) tNoPart) tNil))
abbrev piG (K : PySem.W.Frag) : TG := gTup K 2 (gCons (gName 4) (gCons (gName 5) gNil))
abbrev piE (K : PySem.W.Frag) : TE := tTup (tCons (tVar 4) (tCons (tVar 5) (tCons (tLc (iTup K (tVar 2)) (gTup K 2 (gCons (gName 6) (gCons (gName 7) gNil))) tYes (tCall spExp [] E0 (tCons (tVar 0) (tCons (tOp (rI CMul fun i j => .int (i * j)) (tVar 6) (tVar 4)) (tCons (tVar 7) tNil)))) [6, 7]) tNil)))
def forTg : Stmt → Expr
  | .For t _ _ _ _ => t
  | _ => .Name "x" ⟨0, 0, 0, 0⟩
def forIt : Stmt → Expr
  | .For _ i _ _ _ => i
  | _ => .Name "x" ⟨0, 0, 0, 0⟩
def forY : Stmt → Expr
  | .For _ _ [.Expr (.Yield (some y) _) _] _ _ => y
  | _ => .Name "x" ⟨0, 0, 0, 0⟩
def forYp : Stmt → Pos
  | .For _ _ [.Expr (.Yield (some _) p) _] _ _ => p
  | _ => ⟨0, 0, 0, 0⟩
def forEp : Stmt → Pos
  | .For _ _ [.Expr (.Yield (some _) _) p] _ _ => p
  | _ => ⟨0, 0, 0, 0⟩
def forFp : Stmt → Pos
  | .For _ _ _ _ p => p
  | _ => ⟨0, 0, 0, 0⟩
abbrev piSt : Stmt := (defBody s_pieces).getD 0 (.Pass ⟨0, 0, 0, 0⟩)
abbrev piFor : Stmt := (defBody s_pieces).getD 1 (.Pass ⟨0, 0, 0, 0⟩)
theorem pi_body : defBody s_pieces = gBody piSt (forTg piFor) (forIt piFor) (forY piFor) (forYp piFor) (forEp piFor) (forFp piFor) := rfl
section
variable {P : Program} {w : World} {K : PySem.W.Frag} {mg : Str → Option Value} {base : Heap} {L f : Addr} {cd : Value} {A : Around} {outer : List Env} {s0 : Shared} {H0 : Hp} {pn : List (Addr × Obj)}
theorem pi_p1 (c_cuts_of : Cl P w K mg base CX0 4 "cuts_of" spCuts) (hr : Room 4 (gX P w K mg base piN "pieces" (defScope s_pieces) L f cd A outer s0 H0 pn).A) : PS (gX P w K mg base piN "pieces" (defScope s_pieces) L f cd A outer s0 H0 pn) piSt piT1 :=
  (ps_set (i := 3) sc_pieces.nd rfl (Or.inl rfl) (pe_cl c_cuts_of hr (by decide) pass0 (pa_cons (pv 0) (pa_cons (pv 1) (pa_cons (pv 2) pa_nil)))))
theorem pi_p2 (g_zip : mg "zip" = none) : PI (gX P w K mg base piN "pieces" (defScope s_pieces) L f cd A outer s0 H0 pn) (forTg piFor) (forIt piFor) (piWi K) :=
  (pi_zip (by rfl) g_zip (pa_cons (pv 3) (pa_cons (pe_slice sl_list (pv 3) (po_some pe_int) po_none) pa_nil)))
theorem pi_p3 : PG (gX P w K mg base piN "pieces" (defScope s_pieces) L f cd A outer s0 H0 pn) (forTg piFor) (piG K) :=
  (pg_tup rfl (pgs_cons (pg_name (i := 4) sc_pieces.nd rfl (Or.inr rfl)) (pgs_cons (pg_name (i := 5) sc_pieces.nd rfl (Or.inl rfl)) pgs_nil)))
theorem pi_p4 (c_exponent_of : Cl P w K mg base CX0 3 "exponent_of" spExp) (hr : Room 4 (gX P w K mg base piN "pieces" (defScope s_pieces) L f cd A outer s0 H0 pn).A) : PE (gX P w K mg base piN "pieces" (defScope s_pieces) L f cd A outer s0 H0 pn) (forY piFor) (piE K) :=
  (pe_tup (pa_cons (pv 4) (pa_cons (pv 5) (pa_cons (pe_lc (g := gTup K 2 (gCons (gName 6) (gCons (gName 7) gNil))) (own := [("num", 6), ("den", 7)]) rfl sc_pieces.nd (pi_tup (pv 2)) (blkOk_by (N := ["form", "word", "slopes", "cuts", "low", "high", "num", "den"]) (sc := defScope s_pieces) (by decide +kernel)) (fun _ _ _ _ _ => by exact (pg_tup rfl (pgs_cons (pg_name (i := 6) sc_pieces.nd rfl (Or.inl rfl)) (pgs_cons (pg_name (i := 7) sc_pieces.nd rfl (Or.inl rfl)) pgs_nil)))) (fun _ _ _ _ _ => pts_nil) (fun _ _ _ _ _ => (pe_cl c_exponent_of hr (by decide) pass0 (pa_cons (pv 0) (pa_cons (pe_op op_mul (pv 6) (pv 4)) (pa_cons (pv 7) pa_nil)))))) pa_nil))))
end
theorem pieces_parts {X : Cx} {f : Addr} (g_zip : X.mg "zip" = none) (c_cuts_of : Cl X.prog X.w X.K X.mg X.base CX0 4 "cuts_of" spCuts) (c_exponent_of : Cl X.prog X.w X.K X.mg X.base CX0 3 "exponent_of" spExp) :
    GParts X 4 piN "pieces" (defScope s_pieces) f piSt (forTg piFor) (forIt piFor) (forY piFor) piT1 (piWi X.K) (piG X.K) (piE X.K) :=
  ⟨fun _ _ _ _ _ _ hr => pi_p1 c_cuts_of hr, fun _ _ _ _ _ _ _ => pi_p2 g_zip, fun _ _ _ _ _ _ _ => pi_p3, fun _ _ _ _ _ _ hr => pi_p4 c_exponent_of hr, fun _ _ => rfl, fun _ _ => rfl⟩
end K45
/-! ## W11 -/
namespace K45
open PySem PySem.Spec PyProof.Rows L2
def spPairs (mg : Str → Option Value) : Sp := fun vs H Q _ => ∃ (fa sa ka kf1 kf2 : Addr) (f : Fo) (wy : Way) (word : Nat) (pk : Pick), vs = [.ref fa, .str (wayS wy), .int (word : Int), .ref sa, .ref ka] ∧ FoAt H fa f ∧ FoB f ∧ 1 ≤ word ∧ word ≤ 8 ∧ SlsAt H sa pk.s1 pk.s2 ∧ SlC pk.s1 ∧ SlC pk.s2 ∧
  H ka = some (.tup [.ref kf1, .ref kf2]) ∧ mg (kindN pk.k1) = some (.ref kf1) ∧ mg (kindN pk.k2) = some (.ref kf2) ∧
  ∀ H' p, Same H H' → PsAt H' p (piecesOf pk f wy (cutsOf f (lastOf word) [pk.s1, pk.s2])) → Q (.ref p) H'
section
variable {f : Fo} {word : Nat} {wy : Way} {pk : Pick}
theorem Paired.app {α β : Type} {F : α → β → Prop} : ∀ {l₁ : List α} {l₂ : List β} {m₁ : List α} {m₂ : List β}, Paired F l₁ l₂ → Paired F m₁ m₂ → Paired F (l₁ ++ m₁) (l₂ ++ m₂)
  | _, _, _, _, .nil, h => h
  | _, _, _, _, .cons r t, h => .cons r (Paired.app t h)
/-- the generator's own facts -/
def piGW (K : PySem.W.Frag) (F fa sa a1 a2 : Addr) (f : Fo) (word : Nat) (pk : Pick) (ns : List Int) (J : It) (i : Nat) (σ : L2.St) (H : Hp) : Prop := ∃ c1 c2 v4 v5, J = Itz K c1 c2 ∧ σ = [some (.ref fa), some (.int (word : Int)), some (.ref sa), some (.ref c1), v4, v5, none, none] ∧
  H c1 = some (.lst (ns.map V.int)) ∧ H c2 = some (.lst ((ns.map V.int).drop 1)) ∧ c1 ≠ F ∧ c2 ≠ F ∧ FoAt H fa f ∧ H sa = some (.tup [.ref a1, .ref a2]) ∧ SlAt H a1 pk.s1 ∧ SlAt H a2 pk.s2 ∧ fa ≠ F ∧ sa ≠ F ∧ a1 ≠ F ∧ a2 ≠ F
def piItem (f : Fo) (pk : Pick) (ns : List Int) (i : Nat) (y : V) (H : Hp) : Prop := ∃ T E lo hi, y = .ref T ∧ ns[i]? = some lo ∧ ns[i + 1]? = some hi ∧ H T = some (.tup [.int lo, .int hi, .ref E]) ∧
  H E = some (.lst [.int (expOf f (pk.s1.num * lo) pk.s1.den), .int (expOf f (pk.s2.num * lo) pk.s2.den)])
def piPv (F fa ka sa : Addr) (f : Fo) (wy : Way) (word : Nat) (pk : Pick) (ns : List Int) (H0 : Hp) (i : Nat) (σ : L2.St) (H : Hp) : Prop := ∃ v6 v7 v8 v9 as, σ = [some (.ref fa), some (.str (wayS wy)), some (.int (word : Int)), some (.ref sa), some (.ref ka), some (.ref F), v6, v7, v8, v9] ∧ Same H0 H ∧
  H F = some (.lst (as.map V.ref)) ∧ Paired (PcAt H) as ((piecesOf pk f wy ns).take i)
theorem x_lst {L : Addr} {H H' : Hp} {b : Addr} {xs : List V} (s : SameX L H H') (h : H b = some (.lst xs)) : H' b = some (.lst xs) := s _ _ h (.inr fun _ _ z => by cases z)
theorem k_lst {L F : Addr} {H H' : Hp} {b : Addr} {xs : List V} (s : KeepX L F H H') (n : b ≠ F) (h : H b = some (.lst xs)) : H' b = some (.lst xs) := s _ _ h (.inr fun _ _ z => by cases z) n
theorem k_tup {L F : Addr} {H H' : Hp} {b : Addr} {xs : List V} (s : KeepX L F H H') (n : b ≠ F) (h : H b = some (.tup xs)) : H' b = some (.tup xs) := s _ _ h (.inr fun _ _ z => by cases z) n
end
section
variable {P : Program} {w : World} {K : PySem.W.Frag} {mg : Str → Option Value} {base : Heap}
theorem sc_pairs : FnScope ["form", "way", "word", "slopes", "kinds", "found", "low", "high", "exponents", "lower"] ["form", "way", "word", "slopes", "kinds"] (defScope s_pairs) := ⟨rfl, rfl, rfl, by decide +kernel, rfl, by decide +kernel, by decide +kernel⟩
theorem getD_cut {ns : List Int} {f : Fo} {last : Int} {sl : List Sl} (c : Cuts f last sl ns) (hl : 1 ≤ last) (h255 : last ≤ 255) (hs : ∀ s ∈ sl, s.Ok) {i : Nat} {lo : Int} (h : ns[i]? = some lo) : 1 ≤ lo ∧ lo ≤ 256 := by
  have := c.range hl hs (mem_of_get h)
  omega
theorem cl_pairs (D : DefAt K mg "pairs" s_pairs) (DP : DefAt K mg "pieces" s_pieces) (g_zip : mg "zip" = none) (KA : KindsAt P w K mg base) (c_cuts_of : Cl P w K mg base CX0 4 "cuts_of" spCuts) (c_exponent_of : Cl P w K mg base CX0 3 "exponent_of" spExp) (c_stair_on : Cl P w K mg base CX0 4 "stair_on" (spStairOn mg)) :
    Cl P w K mg base CX0 7 "pairs" (spPairs mg) := by
  obtain ⟨pf, pfd, PF, pm⟩ := DP.ex
  refine cl_of D (fun _ _ _ _ _ _ us hl => match us, hl with | [_, _, _, _, _], _ => rfl) sc_pairs (fun vs H Q E h => ?_) (fun fp cdv A outer s H vs Q E hr h => ?_)
  · obtain ⟨a, b, c, d, e, f, g, i, j, rfl, _⟩ := h
    rfl
  · obtain ⟨fa, sa, ka, kf1, kf2, f, wy, wd, pk, rfl, hf, hb, w1, w8, hsl, b1, b2, hka, hk1, hk2, hQ⟩ := h
    obtain ⟨l1, l2⟩ := lastOf_b w1 w8
    obtain ⟨a1, a2, hsa, hs1, hs2⟩ := hsl
    have ok : ∀ s ∈ [pk.s1, pk.s2], s.Ok := fun s hs => by
      rcases List.mem_cons.mp hs with rfl | hs
      · exact b1.b.ok
      · rw [List.mem_singleton.mp hs]; exact b2.b.ok
    have cu := cutsOf_ok (f := f) l1 ok
    have two := cuts_two cu l1
    have lenN := cutsOf_len f (lastOf wd) [pk.s1, pk.s2]
    generalize hns : cutsOf f (lastOf wd) [pk.s1, pk.s2] = ns at cu two lenN hQ
    have PF' : FunD K "pieces" "pieces" (defArgs s_pieces) (gBody piSt (forTg piFor) (forIt piFor) (forY piFor) (forYp piFor) (forEp piFor) (forFp piFor)) (defScope s_pieces) [] [] pf pfd := PF
    have pbd : Binds K pfd ["form", "word", "slopes"] [] := PF.bindsN (fun _ _ _ _ _ _ us hl => match us, hl with | [_, _, _], _ => rfl)
    refine ⟨_, PSs.nox (pss_cons (ps_set (i := 5) sc_pairs.nd rfl (Or.inl rfl) (pe_lst pa_nil))
      (pss_cons (ps_forGen (k := 4) (N := piN) (fun _ _ z => z) rfl hr PF' pm pbd sc_pieces (by rfl) (pieces_parts g_zip c_cuts_of c_exponent_of) (pa_cons (pv 0) (pa_cons (pv 2) (pa_cons (pv 3) pa_nil))) (pg_tup rfl (pgs_cons (pg_name (i := 6) sc_pairs.nd rfl (Or.inl rfl)) (pgs_cons (pg_name (i := 7) sc_pairs.nd rfl (Or.inl rfl)) (pgs_cons (pg_name (i := 8) sc_pairs.nd rfl (Or.inl rfl)) pgs_nil))))
        (pss_cons (ps_set (i := 9) sc_pairs.nd rfl (Or.inl rfl) (pe_cl c_stair_on hr (by decide) pass0 (pa_cons (pe_ix ix_tup (pv 4) pe_int (fun _ _ => rfl)) (pa_cons (pv 0) (pa_cons (pv 1) (pa_cons (pe_ix ix_tup (pv 3) pe_int (fun _ _ => rfl)) (pa_cons (pe_ix ix_list (pv 8) pe_int (fun _ _ => rfl)) pa_nil)))))))
        (pss_one (ps_expr (pe_bm PySem.F.plainAttrs_list PySem.F.slot_list_append PySem.F.type_list_append mt_append (pv 5) (pa_cons (pe_tup (pa_cons (pv 6) (pa_cons (pv 7) (pa_cons (pv 9) (pa_cons (pe_cl c_stair_on hr (by decide) pass0 (pa_cons (pe_ix ix_tup (pv 4) pe_int (fun _ _ => rfl)) (pa_cons (pv 0) (pa_cons (pv 1) (pa_cons (pe_ix ix_tup (pv 3) pe_int (fun _ _ => rfl)) (pa_cons (pe_ix ix_list (pv 8) pe_int (fun _ _ => rfl)) pa_nil)))))) pa_nil))))) pa_nil))))))
      (pss_one (ps_ret (pv 5))))), ?_⟩
    refine ⟨(by show 0 ≤ sizeLine; decide), fun F hF => ?_⟩
    have sF := same_of_upd (o := .lst []) hF
    have nF : ∀ {b : Addr} {o : HO}, H b = some o → b ≠ F := fun e z => by rw [z, hF] at e; cases e
    show tSeq _ _ _ [some (.ref fa), some (.str (wayS wy)), some (.int wd), some (.ref sa), some (.ref ka), some (.ref F), none, none, none, none] (upd H F (.lst []))
    refine ⟨_, rfl, _, rfl, _, rfl, rfl, ?_⟩
    have nfa := nF hf
    have nsa := nF hsa
    have na1 := nF hs1
    have na2 := nF hs2
    have hX : ∀ {L : Addr}, LowH (upd H F (.lst [])) L → ∀ b o, H b = some o → b < L := fun hL b o e => hL b (by rw [sF _ _ e]; exact fun z => nomatch z)
    refine ⟨⟨F, upd H F (.lst []), ns.length - 1, piPv F fa ka sa f wy wd pk ns H, piItem f pk ns, piGW K F fa sa a1 a2 f wd pk ns, by omega, fun L hL i σ H2 H3 ⟨v6, v7, v8, v9, as, e, sm, hl, pr⟩ x => ?_, fun L hL i y H2 H3 ⟨T, E', lo, hi, ey, e1, e2, hT, hE⟩ x => ?_,
      fun L hL J i σ H2 H3 ⟨c1, c2, v4, v5, eJ, e, h1, h2, n1, n2, q1, q2, q3, q4, m⟩ x => ?_⟩,
      fun H2 => FoAt H2 fa f ∧ H2 sa = some (.tup [.ref a1, .ref a2]) ∧ SlAt H2 a1 pk.s1 ∧ SlAt H2 a2 pk.s2, rfl, ⟨sF _ _ hf, sF _ _ hsa, sF _ _ hs1, sF _ _ hs2⟩, fun L hL H2 H3 ⟨q1, q2, q3, q4⟩ x => ⟨k_tup x nfa q1, k_tup x nsa q2, k_tup x na1 q3, k_tup x na2 q4⟩, ?_, ⟨?_, ?_⟩, ?_, ?_, ?_, ?_⟩
    · exact ⟨v6, v7, v8, v9, as, e, fun b u eb => x b u (sm b u eb) (.inl (hX hL b u eb)), x_lst x hl, Paired.mapP pr fun a q h => PcAt.kt (KT.x x) h⟩
    · exact ⟨T, E', lo, hi, ey, e1, e2, KT.x x _ _ hT, x_lst x hE⟩
    · exact ⟨c1, c2, v4, v5, eJ, e, k_lst x n1 h1, k_lst x n2 h2, n1, n2, k_tup x nfa q1, k_tup x nsa q2, k_tup x na1 q3, k_tup x na2 q4, m⟩
    · -- the generator's first part
      rintro σc H2 ⟨_, _, _, _, as, _, _, hl, _⟩ ⟨q1, q2, q3, q4⟩
      refine ⟨_, rfl, _, rfl, _, rfl, fa, sa, f, wd, pk.s1, pk.s2, rfl, q1, hb, w1, w8, ⟨a1, a2, q2, q3, q4⟩, b1, b2, fun H3 c1 s3 hc0 hc1 => ?_⟩
      rw [hns] at hc1
      have n1 : c1 ≠ F := fun z => by rw [z, hl] at hc0; cases hc0
      refine ⟨s3, ?_⟩
      refine ⟨_, rfl, _, rfl, 1, rfl, c1, _, rfl, SqL.of hc1, fun c2 hc2 => ?_⟩
      have s4 := same_of_upd (o := .lst (cutV (ns.map V.int) (some 1) none)) hc2
      have n2 : c2 ≠ F := fun z => by have := s3 _ _ hl; rw [z] at hc2; rw [hc2] at this; cases this
      refine ⟨c1, c2, _, _, rfl, SqL.of (s4 _ _ hc1), SqL.of upd_same, s4, c1, c2, none, none, rfl, rfl, s4 _ _ hc1, ?_, n1, n2, s4 _ _ (s3 _ _ q1), s4 _ _ (s3 _ _ q2), s4 _ _ (s3 _ _ q3), s4 _ _ (s3 _ _ q4), nfa, nsa, na1, na2⟩
      rw [upd_same, cutV_tail]
    · -- a turn of the generator
      rintro J i σ H2 ⟨c1, c2, v4, v5, rfl, rfl, h1, h2, n1, n2, q1, q2, q3, q4, m⟩ hi
      have hi' : i < ns.length - 1 := hi
      have g1 : ns[i]? = some ns[i] := List.getElem?_eq_getElem (by omega)
      have g2 : ns[i + 1]? = some ns[i + 1] := List.getElem?_eq_getElem (by omega)
      generalize hlo : ns[i] = lo at g1
      generalize hhi : ns[i + 1] = hi2 at g2
      have x1 : (ns.map V.int)[i]? = some (.int lo) := by rw [List.getElem?_map, g1]; rfl
      have x2 : ((ns.map V.int).drop 1)[i]? = some (.int hi2) := by rw [List.getElem?_drop, List.getElem?_map, Nat.add_comm 1 i, g2]; rfl
      refine ⟨⟨_, _, _, _, SqL.of h1, SqL.of h2, x1, x2⟩, fun v H3 hy => ?_⟩
      obtain ⟨T, x, y, rfl, hT, rfl, f1, f2⟩ := hy
      have ex := f1 _ (SqL.of h1)
      have ey := f2 _ (SqL.of h2)
      rw [x1] at ex
      rw [x2] at ey
      obtain rfl := Option.some.inj ex
      obtain rfl := Option.some.inj ey
      have sT := same_of_upd (o := .tup [V.int lo, V.int hi2]) hT
      refine ⟨T, _, rfl, SqT.of upd_same, rfl, _, _, rfl, _, _, rfl, rfl, ?_⟩
      obtain ⟨r1, r2⟩ := getD_cut cu l1 l2 ok g1
      have cmp : ∀ (j : Nat) (sj : Sl), [pk.s1, pk.s2][j]? = some sj → SlC sj := fun j sj hj => by
        match j, hj with
        | 0, hj => cases hj; exact b1
        | 1, hj => cases hj; exact b2
      refine ⟨_, rfl, _, rfl, _, rfl, sa, rfl, ⟨_, SqT.of (sT _ _ q2)⟩, fun Dl hD => lc_tup (xs := [.ref a1, .ref a2])
        (fun j H4 => Same (upd H2 T (.tup [V.int lo, V.int hi2])) H4 ∧ H4 Dl = some (.lst (([pk.s1, pk.s2].take j).map fun s => V.int (expOf f (s.num * lo) s.den)))) ⟨same_of_upd hD, upd_same⟩
        (fun j H4 hj ⟨s4, l4⟩ => SqT.of (s4 _ _ (sT _ _ q2))) (fun j x H4 hx ⟨s4, l4⟩ => ?_) (fun H4 ⟨s4, l4⟩ => ?_)⟩
      · obtain ⟨aj, sj, ej, hj, hsj⟩ : ∃ (aj : Addr) (sj : Sl), x = .ref aj ∧ SlAt H2 aj sj ∧ [pk.s1, pk.s2][j]? = some sj := by
          match j, hx with
          | 0, hx => exact ⟨a1, pk.s1, (Option.some.inj hx).symm, q3, rfl⟩
          | 1, hx => exact ⟨a2, pk.s2, (Option.some.inj hx).symm, q4, rfl⟩
        subst ej
        have bj := cmp j sj hsj
        have hj2 : j < 2 := (List.getElem?_eq_some_iff.mp hsj).1
        obtain ⟨m0, m1⟩ := mul_b bj.b.n0 bj.n2 (x := lo) (by omega) r2
        have bd := bj.b.d1
        refine ⟨aj, _, rfl, SqT.of (s4 _ _ (sT _ _ hj)), rfl, _, _, rfl, _, _, rfl, rfl, rfl, ?_⟩
        refine yes_it (iteT ?_)
        refine ⟨_, rfl, _, rfl, _, rfl, _, _, rfl, rfl, .inr ⟨by omega, by omega⟩, _, rfl, fa, f, sj.num * lo, sj.den, rfl, s4 _ _ (sT _ _ q1), hb, m0, m1, bj.b.d0, by omega, fun H5 s5 => ⟨_, s5 _ _ l4, ?_, ?_⟩⟩
        · rw [List.length_map, List.length_take]
          show min j 2 < 2 ^ 24
          omega
        · refine ⟨same_up (s4.trans s5) hD, ?_⟩
          rw [upd_same, take_next hsj, List.map_append]
          rfl
      · refine ⟨(by show 3 ≤ sizeLine; decide), fun p hp => ?_⟩
        have s5 := same_of_upd (o := .tup [V.int lo, V.int hi2, V.ref Dl]) hp
        have s2 := sT.trans (s4.trans s5)
        exact ⟨s2, ⟨c1, c2, _, _, rfl, rfl, s2 _ _ h1, s2 _ _ h2, n1, n2, s2 _ _ q1, s2 _ _ q2, s2 _ _ q3, s2 _ _ q4, m⟩, p, Dl, lo, hi2, rfl, g1, g2, upd_same, s5 _ _ l4⟩
    · -- its end
      rintro J σ H2 ⟨c1, c2, v4, v5, rfl, rfl, h1, h2, _⟩
      refine ⟨_, _, SqL.of h1, SqL.of h2, .inr ?_⟩
      rw [List.length_drop, List.length_map]
      exact Nat.le_refl _
    · -- the consumer ahead
      exact ⟨none, none, none, none, [], rfl, sF, upd_same, by rw [List.take_zero]; exact .nil⟩
    · rintro i σ H2 ⟨_, _, _, _, as, _, _, hl, _⟩
      exact ⟨_, hl⟩
    · -- a turn of the consumer
      rintro i σ H2 y hi ⟨v6, v7, v8, v9, as, rfl, sm, hl, pr⟩ ⟨T, E', lo, hi2, rfl, g1, g2, hT, hE⟩
      have len := Paired.len pr
      have hi' : i < ns.length - 1 := hi
      refine ⟨T, _, rfl, SqT.of hT, rfl, _, _, rfl, _, _, rfl, _, _, rfl, rfl, ?_⟩
      have r1 := expOf_range f (pk.s1.num * lo) pk.s1.den
      have r2 := expOf_range f (pk.s2.num * lo) pk.s2.den
      refine ⟨_, rfl, ka, _, 0, .ref kf1, rfl, rfl, SqT.of (sm _ _ hka), rfl, _, rfl, _, rfl, _, rfl, sa, _, 0, .ref a1, rfl, rfl, SqT.of (sm _ _ hsa), rfl, _, rfl, E', _, 0, _, rfl, rfl, SqL.of hE, rfl, ?_⟩
      refine ⟨kf1, fa, a1, pk.k1, f, wy, pk.s1, _, rfl, hk1, sm _ _ hf, hb, sm _ _ hs1, b1.b, r1.1, r1.2, fun H3 t1 s3 ht1 => ?_⟩
      refine ⟨_, rfl, .inl ⟨rfl, _, SqL.of (s3 _ _ hl)⟩, _, rfl, _, rfl, _, rfl, _, rfl, ka, _, 1, .ref kf2, rfl, rfl, SqT.of (s3 _ _ (sm _ _ hka)), rfl, _, rfl, _, rfl, _, rfl, sa, _, 1, .ref a2, rfl, rfl, SqT.of (s3 _ _ (sm _ _ hsa)), rfl, _, rfl, E', _, 1, _, rfl, rfl, SqL.of (s3 _ _ hE), rfl, ?_⟩
      refine ⟨kf2, fa, a2, pk.k2, f, wy, pk.s2, _, rfl, hk2, s3 _ _ (sm _ _ hf), hb, s3 _ _ (sm _ _ hs2), b2.b, r2.1, r2.2, fun H4 t2 s4 ht2 => ?_⟩
      refine ⟨(by show 4 ≤ sizeLine; decide), fun p hp => ?_⟩
      have s5 := same_of_upd (o := .tup [V.int lo, V.int hi2, V.ref t1, V.ref t2]) hp
      have sAll := (s3.trans s4).trans s5
      have hl5 := sAll _ _ hl
      have la : as.length = i := by
        rw [len, List.length_take, piecesOf_len]
        omega
      refine ⟨F, _, _, rfl, rfl, hl5, by rw [List.length_map, la]; show i < 2 ^ 24; omega, ?_⟩
      have kt := KT.upd (o := .lst (as.map V.ref ++ [V.ref p])) hl5
      refine ⟨⟨_, _, _, _, as ++ [p], rfl, same_up (sm.trans sAll) hF, ?_, ?_⟩, fun b u eb nb => by rw [upd_ne nb]; exact sAll b u eb⟩
      · rw [upd_same, List.map_append]; rfl
      · have hq := piecesOf_at (pk := pk) (f := f) (w := wy) g1 g2
        rw [take_next hq]
        refine Paired.app (Paired.mapP pr fun a q h => PcAt.kt ((KT.same sAll).trans kt) h) (.cons ?_ .nil)
        exact ⟨t1, t2, kt _ _ upd_same, (ht1.same (s4.trans s5)).kt kt, (ht2.same s5).kt kt⟩
    · -- the end
      rintro σ H2 ⟨v6, v7, v8, v9, as, rfl, sm, hl, pr⟩
      refine ⟨_, rfl, hQ H2 F sm ⟨as, hl, ?_⟩⟩
      have e : (piecesOf pk f wy ns).take (ns.length - 1) = piecesOf pk f wy ns := by
        rw [← piecesOf_len pk f wy ns, List.take_length]
      have pr' : Paired (PcAt H2) as ((piecesOf pk f wy ns).take (ns.length - 1)) := pr
      rw [e] at pr'
      exact pr'
end
end K45
/-! ## W12 -/
namespace K45
open PySem PySem.Spec PyProof.Rows L2
theorem RowB.run_c {r : Row} (b : RowB r) : SlC r.run := by
  refine ⟨b.run_b, ?_⟩
  obtain ⟨g1, g2, s0, s1, _⟩ := b
  obtain ⟨h1, h2⟩ := mul_lt_p (m := 14) (n := 30) (show 0 < r.g by omega) g2 (pp_pos r.s) (pp_le (by omega))
  show r.g * pp r.s < _
  omega
theorem RowB.val_c {r : Row} (b : RowB r) : SlC r.val := by
  refine ⟨b.val_b, ?_⟩
  have h1 := tenP_le (z := r.P) b.P5
  show tenP r.P < _
  omega
/-- what wrong_steps gives -/
noncomputable def stepsOf (r : Row) (f : Fo) (w : Way) (word : Nat) : List Piece := if r.h = 0 then [] else piecesOf (r.pick w) f w (cutsOf f (lastOf word) [(r.pick w).s1, (r.pick w).s2])
def spWP : Sp := fun vs H Q _ => ∃ (fa ra : Addr) (f : Fo) (wy : Way) (word : Nat) (r : Row), vs = [.ref fa, .str (wayS wy), .int (word : Int), .ref ra] ∧ FoAt H fa f ∧ FoB f ∧ 1 ≤ word ∧ word ≤ 8 ∧ RowAt H ra r ∧ RowB r ∧ r.h ≠ 0 ∧ wy ≠ .odd ∧
  ∀ H' p, Same H H' → PsAt H' p (stepsOf r f wy word) → Q (.ref p) H'
def spWS : Sp := fun vs H Q _ => ∃ (fa ra : Addr) (f : Fo) (wy : Way) (word : Nat) (r : Row), vs = [.ref fa, .str (wayS wy), .int (word : Int), .ref ra] ∧ FoAt H fa f ∧ FoB f ∧ 1 ≤ word ∧ word ≤ 8 ∧ RowAt H ra r ∧ RowB r ∧
  ∀ H' p, Same H H' → PsAt H' p (stepsOf r f wy word) → Q (.ref p) H'
section
variable {P : Program} {w : World} {K : PySem.W.Frag} {mg : Str → Option Value} {base : Heap}
theorem sc_wrong_pairs : FnScope ["form", "way", "word", "row", "value", "run"] ["form", "way", "word", "row"] (defScope s_wrong_pairs) := ⟨rfl, rfl, rfl, by decide +kernel, rfl, by decide +kernel, by decide +kernel⟩
theorem cl_wrong_pairs (D : DefAt K mg "wrong_pairs" s_wrong_pairs) (KA : KindsAt P w K mg base) (c_power_fraction : Cl P w K mg base CX0 2 "power_fraction" spPF) (c_run_slope : Cl P w K mg base CX0 2 "run_slope" spRun) (c_is_above : Cl P w K mg base CX0 1 "is_above" spAbove)
    (c_pairs : Cl P w K mg base CX0 7 "pairs" (spPairs mg)) (c_run_kind : Cl P w K mg base CX0 1 "run_kind" (spRunKind mg)) : Cl P w K mg base CX0 8 "wrong_pairs" spWP := by
  refine cl_of D (fun _ _ _ _ _ _ us hl => match us, hl with | [_, _, _, _], _ => rfl) sc_wrong_pairs (fun vs H Q E h => ?_) (fun fp cdv A outer s H vs Q E hr h => ?_)
  · obtain ⟨fa, ra, f, wy, wd, r, rfl, _⟩ := h
    rfl
  · obtain ⟨fa, ra, f, wy, wd, r, rfl, hf, hb, w1, w8, hra, br, h0, hw, hQ⟩ := h
    obtain ⟨fa_read_stair, _, _, _, g_read_stair, _, _⟩ := (KA.cl .read).ex
    obtain ⟨fa_up_stair, _, _, _, g_up_stair, _, _⟩ := (KA.cl .up).ex
    have hkind : ∀ {ff}, mg (kindN (if r.h = 0 then .read else .up)) = some (.ref ff) → ff = fa_up_stair := fun e => by
      rw [if_neg h0] at e
      exact Value.ref.inj (Option.some.inj (e.symm.trans g_up_stair))
    refine ⟨_, PSs.nox (pss_cons (ps_par (i := 4) (j := 5) rfl sc_wrong_pairs.nd rfl rfl (by decide) rfl rfl (pa_cons (pe_cl c_power_fraction hr (by decide) pass0 (pa_cons (pe_ix ix_tup (pv 3) pe_int (fun _ _ => rfl)) pa_nil)) (pa_cons (pe_cl c_run_slope hr (by decide) pass0 (pa_cons (pv 3) pa_nil)) pa_nil)) (by rfl))
      (pss_cons (ps_if (pt_val (pe_cl c_is_above hr (by decide) pass0 (pa_cons (pv 4) (pa_cons (pv 5) pa_nil))))
        (pss_one (ps_ret (pe_cl c_pairs hr (by decide) pass0 (pa_cons (pv 0) (pa_cons (pv 1) (pa_cons (pv 2) (pa_cons (pe_tup (pa_cons (pv 5) (pa_cons (pv 4) pa_nil))) (pa_cons (pe_tup (pa_cons (pe_cl c_run_kind hr (by decide) pass0 (pa_cons (pv 3) pa_nil)) (pa_cons (pe_glob (v := .ref fa_read_stair) (by rfl) g_read_stair rfl) pa_nil))) pa_nil))))))))
        pss_nil)
      (pss_one (ps_ret (pe_cl c_pairs hr (by decide) pass0 (pa_cons (pv 0) (pa_cons (pv 1) (pa_cons (pv 2) (pa_cons (pe_tup (pa_cons (pv 4) (pa_cons (pv 5) pa_nil))) (pa_cons (pe_tup (pa_cons (pe_glob (v := .ref fa_read_stair) (by rfl) g_read_stair rfl) (pa_cons (pe_cl c_run_kind hr (by decide) pass0 (pa_cons (pv 3) pa_nil)) pa_nil))) pa_nil)))))))))), ?_⟩
    refine ⟨_, rfl, ra, _, 0, .int r.P, rfl, rfl, SqT.of hra, rfl, r.P, rfl, br.P0, br.P5, fun H1 v s1 hv => ?_⟩
    refine ⟨_, rfl, ra, r, rfl, s1 _ _ hra, br, fun H2 u s2 hu => ?_⟩
    have hv2 : SlAt H2 v r.val := s2 _ _ hv
    have s12 := s1.trans s2
    refine ⟨_, _, rfl, ?_⟩
    refine ⟨_, rfl, _, rfl, v, u, r.val, r.run, rfl, hv2, hu, br.val_b, br.run_b, _, rfl, ?_⟩
    by_cases ha : above r.val r.run
    · rw [decide_eq_true ha]
      have ep : r.pick wy = ⟨r.run, .up, r.val, .read⟩ := by
        unfold Row.pick
        rw [if_pos ha, if_neg hw]
      refine iteT ⟨_, rfl, _, rfl, _, rfl, _, rfl, _, rfl, (by show 2 ≤ sizeLine; decide), fun sa hsa => ?_⟩
      have s3 := same_of_upd (o := .tup [V.ref u, V.ref v]) hsa
      refine ⟨_, rfl, ra, r, rfl, s3 _ _ (s12 _ _ hra), fun ff hff => ?_⟩
      obtain rfl := hkind hff
      refine ⟨(by show 2 ≤ sizeLine; decide), fun ka hka => ?_⟩
      have s4 := same_of_upd (o := .tup [V.ref ff, V.ref fa_read_stair]) hka
      refine ⟨fa, sa, ka, ff, fa_read_stair, f, wy, wd, r.pick wy, rfl, s4 _ _ (s3 _ _ (s12 _ _ hf)), hb, w1, w8, ?_, ?_, ?_, upd_same, ?_, ?_, fun H5 p s5 hp => hQ H5 p (s12.trans ((s3.trans s4).trans s5)) ?_⟩
      · rw [ep]; exact ⟨u, v, s4 _ _ upd_same, s4 _ _ (s3 _ _ hu), s4 _ _ (s3 _ _ hv2)⟩
      · rw [ep]; exact br.run_c
      · rw [ep]; exact br.val_c
      · rw [ep]; exact g_up_stair
      · rw [ep]; exact g_read_stair
      · unfold stepsOf
        rw [if_neg h0]; exact hp
    · rw [decide_eq_false ha]
      have ep : r.pick wy = ⟨r.val, .read, r.run, .up⟩ := by
        unfold Row.pick
        rw [if_neg ha, if_neg hw]
      refine iteF ⟨_, rfl, _, rfl, _, rfl, _, rfl, _, rfl, (by show 2 ≤ sizeLine; decide), fun sa hsa => ?_⟩
      have s3 := same_of_upd (o := .tup [V.ref v, V.ref u]) hsa
      refine ⟨_, rfl, ra, r, rfl, s3 _ _ (s12 _ _ hra), fun ff hff => ?_⟩
      obtain rfl := hkind hff
      refine ⟨(by show 2 ≤ sizeLine; decide), fun ka hka => ?_⟩
      have s4 := same_of_upd (o := .tup [V.ref fa_read_stair, V.ref ff]) hka
      refine ⟨fa, sa, ka, fa_read_stair, ff, f, wy, wd, r.pick wy, rfl, s4 _ _ (s3 _ _ (s12 _ _ hf)), hb, w1, w8, ?_, ?_, ?_, upd_same, ?_, ?_, fun H5 p s5 hp => hQ H5 p (s12.trans ((s3.trans s4).trans s5)) ?_⟩
      · rw [ep]; exact ⟨v, u, s4 _ _ upd_same, s4 _ _ (s3 _ _ hv2), s4 _ _ (s3 _ _ hu)⟩
      · rw [ep]; exact br.val_c
      · rw [ep]; exact br.run_c
      · rw [ep]; exact g_read_stair
      · rw [ep]; exact g_up_stair
      · unfold stepsOf
        rw [if_neg h0]; exact hp
theorem sc_wrong_steps : FnScope ["form", "way", "word", "row", "value", "run"] ["form", "way", "word", "row"] (defScope s_wrong_steps) := ⟨rfl, rfl, rfl, by decide +kernel, rfl, by decide +kernel, by decide +kernel⟩
theorem cl_wrong_steps (D : DefAt K mg "wrong_steps" s_wrong_steps) (g_ODD : ∃ t, mg "ODD" = some (.str "odd" t)) (KA : KindsAt P w K mg base) (c_power_fraction : Cl P w K mg base CX0 2 "power_fraction" spPF) (c_run_slope : Cl P w K mg base CX0 2 "run_slope" spRun) (c_is_above : Cl P w K mg base CX0 1 "is_above" spAbove)
    (c_pairs : Cl P w K mg base CX0 7 "pairs" (spPairs mg)) (c_wrong_pairs : Cl P w K mg base CX0 8 "wrong_pairs" spWP) : Cl P w K mg base CX0 9 "wrong_steps" spWS := by
  refine cl_of D (fun _ _ _ _ _ _ us hl => match us, hl with | [_, _, _, _], _ => rfl) sc_wrong_steps (fun vs H Q E h => ?_) (fun fp cdv A outer s H vs Q E hr h => ?_)
  · obtain ⟨fa, ra, f, wy, wd, r, rfl, _⟩ := h
    rfl
  · obtain ⟨fa, ra, f, wy, wd, r, rfl, hf, hb, w1, w8, hra, br, hQ⟩ := h
    obtain ⟨tO, g_ODD⟩ := g_ODD
    obtain ⟨fa_half_stair, _, _, _, g_half_stair, _, _⟩ := (KA.cl .half).ex
    obtain ⟨fa_below_half_stair, _, _, _, g_below_half_stair, _, _⟩ := (KA.cl .below).ex
    refine ⟨_, PSs.nox (pss_cons (ps_if (pt_cmpR op_eq (pe_ix ix_tup (pv 3) pe_int (fun _ _ => rfl)) pe_int (nomark _))
        (pss_one (ps_ret (pe_lst pa_nil)))
        pss_nil)
      (pss_cons (ps_if (pt_cmpR op_ne (pv 1) (pe_glob (v := .str "odd") (by rfl) g_ODD ⟨_, rfl⟩) (nomark _))
        (pss_one (ps_ret (pe_cl c_wrong_pairs hr (by decide) pass0 (pa_cons (pv 0) (pa_cons (pv 1) (pa_cons (pv 2) (pa_cons (pv 3) pa_nil)))))))
        pss_nil)
      (pss_cons (ps_par (i := 4) (j := 5) rfl sc_wrong_steps.nd rfl rfl (by decide) rfl rfl (pa_cons (pe_cl c_power_fraction hr (by decide) pass0 (pa_cons (pe_ix ix_tup (pv 3) pe_int (fun _ _ => rfl)) pa_nil)) (pa_cons (pe_cl c_run_slope hr (by decide) pass0 (pa_cons (pv 3) pa_nil)) pa_nil)) (by rfl))
      (pss_cons (ps_if (pt_val (pe_cl c_is_above hr (by decide) pass0 (pa_cons (pv 4) (pa_cons (pv 5) pa_nil))))
        (pss_one (ps_ret (pe_cl c_pairs hr (by decide) pass0 (pa_cons (pv 0) (pa_cons (pv 1) (pa_cons (pv 2) (pa_cons (pe_tup (pa_cons (pv 5) (pa_cons (pv 4) pa_nil))) (pa_cons (pe_tup (pa_cons (pe_glob (v := .ref fa_half_stair) (by rfl) g_half_stair rfl) (pa_cons (pe_glob (v := .ref fa_half_stair) (by rfl) g_half_stair rfl) pa_nil))) pa_nil))))))))
        pss_nil)
      (pss_one (ps_ret (pe_cl c_pairs hr (by decide) pass0 (pa_cons (pv 0) (pa_cons (pv 1) (pa_cons (pv 2) (pa_cons (pe_tup (pa_cons (pv 4) (pa_cons (pv 5) pa_nil))) (pa_cons (pe_tup (pa_cons (pe_glob (v := .ref fa_below_half_stair) (by rfl) g_below_half_stair rfl) (pa_cons (pe_glob (v := .ref fa_half_stair) (by rfl) g_half_stair rfl) pa_nil))) pa_nil)))))))))))), ?_⟩
    refine ⟨_, rfl, ra, _, 3, .int r.h, rfl, rfl, SqT.of hra, rfl, rfl, _, rfl, ?_⟩
    by_cases h0 : r.h = 0
    · rw [decide_eq_true (show (V.int r.h = V.int 0) by rw [h0])]
      refine iteT ⟨(by show 0 ≤ sizeLine; decide), fun p hp => hQ _ p (same_of_upd hp) ?_⟩
      unfold stepsOf
      rw [if_pos h0]
      exact ⟨[], upd_same, .nil⟩
    · rw [decide_eq_false (show ¬ (V.int r.h = V.int 0) from fun z => h0 (V.int.inj z))]
      refine iteF ?_
      refine ⟨_, rfl, rfl, _, rfl, ?_⟩
      by_cases hw : wy = .odd
      · have e : (!decide (V.str (wayS wy) = V.str "odd")) = false := by rw [hw]; rfl
        rw [e]
        refine iteF ?_
        subst hw
        refine ⟨_, rfl, ra, _, 0, .int r.P, rfl, rfl, SqT.of hra, rfl, r.P, rfl, br.P0, br.P5, fun H1 v s1 hv => ?_⟩
        refine ⟨_, rfl, ra, r, rfl, s1 _ _ hra, br, fun H2 u s2 hu => ?_⟩
        have hv2 : SlAt H2 v r.val := s2 _ _ hv
        have s12 := s1.trans s2
        refine ⟨_, _, rfl, ?_⟩
        refine ⟨_, rfl, _, rfl, v, u, r.val, r.run, rfl, hv2, hu, br.val_b, br.run_b, _, rfl, ?_⟩
        by_cases ha : above r.val r.run
        · rw [decide_eq_true ha]
          have ep : r.pick .odd = ⟨r.run, .half, r.val, .half⟩ := by
            unfold Row.pick
            rw [if_pos ha, if_pos rfl]
          refine iteT ⟨_, rfl, _, rfl, _, rfl, _, rfl, _, rfl, (by show 2 ≤ sizeLine; decide), fun sa hsa => ?_⟩
          have s3 := same_of_upd (o := .tup [V.ref u, V.ref v]) hsa
          refine ⟨(by show 2 ≤ sizeLine; decide), fun ka hka => ?_⟩
          have s4 := same_of_upd (o := .tup [V.ref fa_half_stair, V.ref fa_half_stair]) hka
          refine ⟨fa, sa, ka, fa_half_stair, fa_half_stair, f, .odd, wd, r.pick .odd, rfl, s4 _ _ (s3 _ _ (s12 _ _ hf)), hb, w1, w8, ?_, ?_, ?_, upd_same, ?_, ?_, fun H5 p s5 hp => hQ H5 p (s12.trans ((s3.trans s4).trans s5)) ?_⟩
          · rw [ep]; exact ⟨u, v, s4 _ _ upd_same, s4 _ _ (s3 _ _ hu), s4 _ _ (s3 _ _ hv2)⟩
          · rw [ep]; exact br.run_c
          · rw [ep]; exact br.val_c
          · rw [ep]; exact g_half_stair
          · rw [ep]; exact g_half_stair
          · unfold stepsOf
            rw [if_neg h0]; exact hp
        · rw [decide_eq_false ha]
          have ep : r.pick .odd = ⟨r.val, .below, r.run, .half⟩ := by
            unfold Row.pick
            rw [if_neg ha, if_pos rfl]
          refine iteF ⟨_, rfl, _, rfl, _, rfl, _, rfl, _, rfl, (by show 2 ≤ sizeLine; decide), fun sa hsa => ?_⟩
          have s3 := same_of_upd (o := .tup [V.ref v, V.ref u]) hsa
          refine ⟨(by show 2 ≤ sizeLine; decide), fun ka hka => ?_⟩
          have s4 := same_of_upd (o := .tup [V.ref fa_below_half_stair, V.ref fa_half_stair]) hka
          refine ⟨fa, sa, ka, fa_below_half_stair, fa_half_stair, f, .odd, wd, r.pick .odd, rfl, s4 _ _ (s3 _ _ (s12 _ _ hf)), hb, w1, w8, ?_, ?_, ?_, upd_same, ?_, ?_, fun H5 p s5 hp => hQ H5 p (s12.trans ((s3.trans s4).trans s5)) ?_⟩
          · rw [ep]; exact ⟨v, u, s4 _ _ upd_same, s4 _ _ (s3 _ _ hv2), s4 _ _ (s3 _ _ hu)⟩
          · rw [ep]; exact br.val_c
          · rw [ep]; exact br.run_c
          · rw [ep]; exact g_below_half_stair
          · rw [ep]; exact g_half_stair
          · unfold stepsOf
            rw [if_neg h0]; exact hp
      · have e : (!decide (V.str (wayS wy) = V.str "odd")) = true := by
          cases wy with
          | odd => exact absurd rfl hw
          | _ => decide
        rw [e]
        refine iteT ⟨_, rfl, _, rfl, _, rfl, _, rfl, fa, ra, f, wy, wd, r, rfl, hf, hb, w1, w8, hra, br, h0, hw, hQ⟩
end
end K45
/-! ## E1 -/
namespace K45
open PySem PySem.Spec PySem.W PySem.Calls PyProof.Rows PySem.HandSPX
/-! ### an own exception: def __init__(self, fld): super().__init__(fld); self.fld = fld -/
/-- what is fixed of such a class: its field, its built-in base -/
structure XKind (fld : Str) (B newId initId : String) (tl : List Value) : Prop where
  F : ExcBaseFacts B newId initId tl
  KF : KxsFacts B initId
  l1 : (xS fld).names.lookup fld = some .local
  l2 : (xS fld).names.lookup ("super" : Str) = some .globalImplicit
  l3 : (xS fld).names.lookup ("__class__" : Str) = some .free
  ns : fld ≠ "self"
  nd : (fld == ("__debug__" : Str)) = false
  bd : ∀ (p1 p2 : Pos) (a b : Value) (f : FuncData), f.params = xA fld p1 p2 → f.defaults = .none → f.kwdefaults = .none → bindArgs f ⟨[a, b], []⟩ = pure [(("self" : Str), a), (fld, b)]
/-- how the call of super().__init__ reads (its places stand on one line) -/
def SupEq (fld : Str) (q1 q2 q3 q4 q5 : Pos) : Prop := ∀ env : Env, ∃ pl : Sem Bool, eval (.Call (.Attribute (.Call (.Name "super" q1) [] [] q2) "__init__" q3) [.Name fld q4] [] q5) env = (do
      let ov ← attributeBase (.Call (.Name "super" q1) [] [] q2) "__init__" env (eval (.Call (.Name "super" q1) [] [] q2) env)
      standAt q3.atName
      let (f, first) ← holding [ov] (getMethod ov "__init__" pl)
      callWith q5 f first (backTo q5 (starEach [.Name fld q4] env)) [])
/-- what the written part says of such a class at C and of its __init__ at fI -/
structure ExTxt (P : Program) (K : Frag) (mg : Str → Option Value) (nm fld : Str) (B newId initId : String) (tl : List Value) (C fI : Addr) : Prop where
  gC : mg nm = some (.ref C)
  cls : ∃ nm' q N bs bm sn sub ab col dd k0 k1 k2 k3 k5, K.lookup C = some (excClassObj nm' q C N bs bm true sn sub ab col dd k0 k1 k2 k3 k5 newId) ∧ (∀ X : String, bm.contains (.type X) = tl.contains (.type X)) ∧ (∀ self, refuseLoop self "__setattr__" (.ref C :: bm) = pure ()) ∧
    alongIn K "__init__" bm = some (some (.builtin initId))
  sa : findIn K (.ref C) "__setattr__" = some (some (.builtin "object.__setattr__"))
  ga : findIn K (.ref C) "__getattribute__" = some (some (.builtin "BaseException.__getattribute__"))
  gg : findIn K (.ref C) "__getattr__" = some none
  noN : findIn K (.ref C) fld = some none
  iC : findIn K (.ref C) "__init__" = some (some (.ref fI))
  tC : typeIn K (.ref fI) = some (.type "function")
  kC : keepIn K (.ref C) = true
  exC : subIn K (.ref C) (.type "BaseException") = some true
  exB : subIn K (.ref C) (.type B) = some true
  tyC : typeIn K (.ref C) = some (.type "type")
  hdC : hasDictIn K C = true
  mC : mroIn K C (.ref C) = some true
  mO : mroIn K C (.type "object") = some true
  st : nsIn K cStatics "thirdparty.any" = some none
  gsu : mg "super" = none
  fn : ∃ (oc : Value) (od : Option Addr) (doc pm : Value) (an : Option Addr) (cda : Addr) (ct : Value) (osl : Array (Option Value)) (p1 p2 q1 q2 q3 q4 q5 q6 q7 q8 q9 q10 : Pos) (cc : Addr) (ccl cl : Value) (cdd cld : Option Addr) (ccs csl : Array (Option Value)) (vs : Array Value) (file : Str) (tf : Tok) (qn : Str),
    K.lookup fI = some ⟨oc, od, .func (ksFn "__init__" qn (xA fld p1 p2) (xB fld q1 q2 q3 q4 q5 q6 q7 q8 q9 q10) (xS fld) .none .none doc pm an (.ref cda) ct cc), osl⟩ ∧ codeIn K (.ref cda) qn = true ∧
    K.lookup cda = some ⟨ccl, cdd, .fields vs, ccs⟩ ∧ vs[2]? = some (.str file tf) ∧ ((P.main.file : Str) == file) = true ∧ K.lookup cc = some ⟨cl, cld, .cell (some (.ref C)), csl⟩ ∧ SupEq fld q1 q2 q3 q4 q5
  top : (P.main.scope.names.lookup ("super" : Str)).isSome = false
/-- what __init__ leaves of a fresh exception at x -/
structure InitEnd (h h' : Heap) (fld : Str) (x C dx t1 : Addr) (v : Value) : Prop where
  keep : ∀ b o, b ≠ x → h.get? b = some o → h'.get? b = some o
  obj : h'.get? x = some { cls := .ref C, dict := some dx, data := .fields #[.ref t1, .none, .none, .none, .bool false, .none] }
  dbig : h.objs.size ≤ dx
  dne : dx ≠ x
  ns : h'.Ns1 dx (fun y => if y = fld then some v else none)
structure OwnMade (h h' : Heap) (fld : Str) (e C d : Addr) (v : Value) : Prop where
  keep : ∀ b o, h.get? b = some o → h'.get? b = some o
  new : h.objs.size ≤ e
  obj : ∃ oe vs, h'.get? e = some oe ∧ oe.cls = .ref C ∧ oe.dict = some d ∧ oe.data = .fields vs ∧ vs[1]? = some .none
  dbig : h.objs.size ≤ d
  dne : d ≠ e
  ns : h'.Ns1 d (fun y => if y = fld then some v else none)
section
variable {prog : Program} {w : World} {M : Model} {A : Around} {E : Value → Shared → Prop} {h : Heap} {g : Array GenState} {d : Drawn} {t : Nat} {os : OsState} {B i newId : String} {tl : List Value}
/-- the bound built-in __init__ is called -/
theorem call_mw (FB : ExcBaseFacts B newId i tl) {nm q : Str} {C N u e t0 : Addr} {bs bm : List Value} {hdct : Bool} {sn : List Str} {sub : List Value} {ab : Bool} {col : Option Bool} {dd : Option Addr} {k0 k1 k2 k3 k5 : Option Value} {rest : List Value} {Q : Value → Shared → Prop}
    (hC : h.get? C = some (excClassObj nm q C N bs bm hdct sn sub ab col dd k0 k1 k2 k3 k5 newId)) (he : h.get? e = some (HandSPX.excO C t0)) (hu : h.get? u = some (kxs_mw i e)) (hrest : rest.length ≤ sizeLine)
    (hq : ∀ h' t1, (∀ b o, b ≠ e → h.get? b = some o → h'.get? b = some o) → h'.get? e = some (HandSPX.excO C t1) → Q .none ⟨h', g, d, t, os⟩) :
    wpAny (model prog w) A (call (.ref u) rest) Q E ⟨h, g, d, t, os⟩ := by
  refine wpAny_call (codeAny_of_tree ?_)
  show wpAny _ A.in1 (callAny (.ref u) ⟨rest, []⟩) _ _ _
  simp only [callAny]
  refine wpAny_bind (wpAny_load hu ?_)
  simp only [kxs_mw, show (Value.type "method-wrapper" == Value.type "method" || Value.type "method-wrapper" == Value.type "builtin_function_or_method" || Value.type "method-wrapper" == Value.type "method-wrapper") = true by decide, if_true]
  refine KFB.if_so (by decide) ?_
  refine wpAny_bind (check_bound_init FB.toExcCallFacts hC he rfl ?_)
  refine wpAny_bind (wpAny_pure (wpAny_pure ?_))
  refine ⟨plainId_quiet FB.init.plain _, codeAny_builtin FB.initEntry ?_⟩
  exact exc_init_tree (cls := .ref C) (t0 := t0) (dv := none) (c2 := .none) (c3 := .none) (b4 := .bool false) he hrest fun h' k e' _ => hq h' _ k e'
end
section
variable {prog : Program} {w : World} {A : Around} {R : Result → Shared → Prop} {hp : Heap} {g : Array GenState} {d : Drawn} {t : Nat} {os : OsState}
open Builtin Builtin.ObjectAttr
/-- the first field of such an exception is stored -/
theorem osa_first {K : Frag} {name : Str} {tk : Tok} {v : Value} {x C : Addr} {fv : Array Value} {cd : ClassData}
    (X : K.In hp) (hx : hp.get? x = some { cls := .ref C, data := .fields fv }) (hcd : clsIn K C = some cd) (hpass : ∀ self, refuseLoop self "__setattr__" cd.mro = pure ()) (hob : mroIn K C (.type "object") = some true) (hh : cd.hasDict = true) (ha : findIn K (.ref C) name = some none)
    (hq : ∀ h' tk' dx, (∀ b o, b ≠ x → hp.get? b = some o → h'.get? b = some o) → hp.objs.size ≤ dx → dx ≠ x → h'.get? x = some { cls := .ref C, dict := some dx, data := .fields fv } →
      h'.Ns1 dx (fun y => if y = name then some v else none) → R (.ok (.ret .none)) ⟨h', g, d, tk', os⟩) :
    codeAny (model prog w) A (.call (.builtin "object.__setattr__") ⟨[.ref x, .str name tk, v], []⟩) R ⟨hp, g, d, t, os⟩ := by
  have I : InstAt hp x { cls := .ref C, data := .fields fv } C none := ⟨hx, rfl, rfl, trivial⟩
  have SF := PySem.F.store_object
  have hxs : x ≠ hp.objs.size := Nat.ne_of_lt (Heap.lt_size hx)
  have sub : Looks (model prog w) hp (isInstance (.ref x) (.type "object")) true := I.type.andThen (looks_mroIn X hob)
  refine codeAny_call_builtin SF.slot.plain SF.entry (@check_slot (model prog w) _ _ ⟨hp, g, d, t, os⟩ "object.__setattr__" "object" "__setattr__" (.ref x) [.str name tk, v] [] _ SF.kind SF.split sub (SF.args (.ref x) (.str name tk) v) ?_)
  have hmr : Looks (model prog w) hp (mroOf (.ref C)) cd.mro := (looks_clsIn X hcd).andThen .now
  have L3 : Looks (model prog w) hp (storeTaker? none) none := .now
  have hcls : Looks (model prog w) hp (classData C) cd := looks_clsIn X hcd
  rw [osa_eq, refuse_eq]
  refine wpAny_bind (wpAny_bind (I.type.at (wpAny_bind (hmr.at ?_))))
  rw [hpass]
  refine wpAny_pure (wpAny_bind (I.type.at (wpAny_bind ((looks_findIn X ha).at (wpAny_bind (L3.at ?_))))))
  show wpAny _ _ (storeInOwnDict (.ref x) (.ref C) (.str name tk) name v false) _ _ _
  obtain ⟨nm, bs, mro, ns, qn, hd, sn, sb, ab, col, del⟩ := cd
  dsimp only at hh
  subst hh
  unfold storeInOwnDict ownDictForStores
  repeat (first | with_reducible refine HandSPX.store_in_new ?_ ?_ | with_reducible refine wpAny_loadPart_at hx ?_ | with_reducible refine hcls.at ?_ | wp_step)
  · exact ⟨_, #[], _, (Heap.get?_update_ne _ _ _ _ hxs.symm).trans (Heap.get?_push_at rfl rfl), rfl, fun e he => absurd he (by simp), fun _ => rfl⟩
  · intro h' tk' hn' hs
    have hx₁ : (hp.push { cls := .type "dict", data := .dict #[] }).get? x = some { cls := .ref C, data := .fields fv } := Heap.get?_push_of_some _ hx
    refine hq h' tk' hp.objs.size (fun b o hb ho => ?_) (Nat.le_refl _) hxs.symm ?_ hn'
    · exact (hs.2 b (Nat.ne_of_lt (Heap.lt_size ho))).trans ((Heap.get?_update_ne _ _ _ _ hb).trans (Heap.get?_push_of_some _ ho))
    · exact (hs.2 x hxs).trans (Heap.get?_update_self _ hx₁ rfl)
end
end K45
/-! ## E2 -/
namespace K45
open PySem PySem.Spec PySem.W PySem.Calls PyProof.Rows PySem.HandSPX
theorem one_size (v : Value) : [v].length ≤ sizeLine := by
  rw [sizeLine_eq]
  exact (by decide : 1 ≤ 16777216)
theorem kept_but {K : Frag} {h h' : Heap} {x : Addr} (X : K.In h) (hx : K.lookup x = none) (k : ∀ b o, b ≠ x → h.get? b = some o → h'.get? b = some o) : K.In h' := fun a o e =>
  k a o (fun z => by rw [z, hx] at e; cases e) (X a o e)
section
variable {prog : Program} {w : World} {A : Around} {E : Value → Shared → Prop} {R : Result → Shared → Prop} {s : Shared} {K : Frag} {mg : Str → Option Value} {nm fld : Str} {B newId initId : String} {tl : List Value} {C fI : Addr}
theorem ldS {M : Model} {env : Env} {s : Shared} {L : Addr} {m : Str → Option Value} {x : Str} {pos : Pos} {v : Value} {Q : Value → Shared → Prop} {A : Around} {E : Value → Shared → Prop} (hL : env.locals = L) (hn : s.heap.Ns L m) (hv : m x = some v) (hk : env.scope.kind = .function) (hl : env.kindOf x = some .local) (hd : (x == ("__debug__" : Str)) = false) (h : Q v s) :
    wpAny M A (eval (.Name x pos) env) Q E s := by
  subst hL
  exact wpAny_Name (wpAny_loadName_local hk hl hn hv h) hd
theorem own_init (XK : XKind fld B newId initId tl) (T : ExTxt prog K mg nm fld B newId initId tl C fI) {x t0 : Addr} {v : Value} (X : K.In s.heap) (hlim : s.heap.NoLimit) (hG : s.heap.Ns mainGlobals mg) (hB : ∃ mb, s.heap.Ns builtinsNs mb ∧ ∀ y : Str, y ≠ "__name__" → mb y = bootBuiltins y)
    (hx : s.heap.get? x = some (excO C t0)) (hnx : K.lookup x = none) (hroom : A.depth < recursionLimit)
    (hq : ∀ h' tk dx t1, InitEnd s.heap h' fld x C dx t1 v → R (.ok (.ret .none)) { s with heap := h', toks := tk }) :
    codeAny (model prog w) A (.call (.ref fI) ⟨[.ref x, v], []⟩) R s := by
  obtain ⟨oc, od, doc, pm, an, cda, ct, osl, p1, p2, q1, q2, q3, q4, q5, q6, q7, q8, q9, q10, cc, ccl, cl, cdd, cld, ccs, csl, vs, file, tf, qn, ho, hcd, hcda, hvs, hfile, hcell, hsupq⟩ := T.fn
  obtain ⟨nm', q, N, bs, bm, sn, sub, ab, col, dd, k0, k1, k2, k3, k5, hC, hcont, hpass, halong⟩ := T.cls
  have hcl : clsIn K C = some { name := nm', bases := bs, mro := .ref C :: bm, ns := N, qualname := q, hasDict := true, slotNames := sn, subclasses := sub, abstract := ab, collection := col, hasDel := false } := by unfold clsIn; rw [hC] <;> rfl
  obtain ⟨mb, hBn, hBv⟩ := hB
  have hne := XK.ns
  refine ks_codeAny_call_defAt (fd := ksFn "__init__" qn (xA fld p1 p2) (xB fld q1 q2 q3 q4 q5 q6 q7 q8 q9 q10) (xS fld) .none .none doc pm an (.ref cda) ct cc) (binds := [("self", .ref x), (fld, v)]) hroom (X _ _ ho) rfl hlim (codeRec_of X hcd) rfl
    (BindsTo.of_eq (XK.bd p1 p2 _ _ _ rfl rfl rfl)) ?_ ?_ (fun h₁ hns hk₁ => ?_)
  · intro y hy
    have hy' : y ∈ [(("self" : Str), NameKind.local), (fld, .local), ("__class__", .free), ("super", .globalImplicit)] := hy
    simp only [List.mem_cons, List.not_mem_nil, or_false] at hy'
    rcases hy' with rfl | rfl | rfl | rfl <;> exact fun z => nomatch z
  · intro y hy
    simp only [List.mem_cons, List.not_mem_nil, or_false] at hy
    rcases hy with rfl | rfl
    · rfl
    · exact XK.l1
  have hself : (fun y => List.lookup y [(("self" : Str), Value.ref x), (fld, v)].reverse) "self" = some (.ref x) := by
    show List.lookup ("self" : Str) [(fld, v), ("self", Value.ref x)] = _
    have : (("self" : Str) == fld) = false := by simpa using fun z => hne z.symm
    simp [List.lookup, this]
  have hfld : (fun y => List.lookup y [(("self" : Str), Value.ref x), (fld, v)].reverse) fld = some v := by
    show List.lookup fld [(fld, v), ("self", Value.ref x)] = _
    simp [List.lookup]
  generalize hm : (fun y => List.lookup y [(("self" : Str), Value.ref x), (fld, v)].reverse) = m at hns hself hfld
  generalize hE : callEnv (ksFn "__init__" qn (xA fld p1 p2) (xB fld q1 q2 q3 q4 q5 q6 q7 q8 q9 q10) (xS fld) .none .none doc pm an (.ref cda) ct cc) s.heap.objs.size fI = env
  have eL : env.locals = s.heap.objs.size := by rw [← hE]; rfl
  have eSc : env.scope = xS fld := by rw [← hE]; rfl
  have eG : env.globals = mainGlobals := by rw [← hE]; rfl
  have eB : env.builtins = builtinsNs := by rw [← hE]; rfl
  have eC : env.cells = [(("__class__" : Str), cc)] := by rw [← hE]; rfl
  have eF : env.func = some fI := by rw [← hE]; rfl
  have eK : env.code = .ref cda := by rw [← hE]; rfl
  have kk : env.scope.kind = .function := by rw [eSc]; rfl
  have kS : env.kindOf "super" = some .globalImplicit := by unfold Env.kindOf; rw [eSc]; exact XK.l2
  have kCl : env.kindOf "__class__" = some .free := by unfold Env.kindOf; rw [eSc]; exact XK.l3
  have kSelf : env.kindOf "self" = some .local := by unfold Env.kindOf; rw [eSc]; rfl
  have kF : env.kindOf fld = some .local := by unfold Env.kindOf; rw [eSc]; exact XK.l1
  have hxL : s.heap.objs.size ≠ x := Nat.ne_of_gt (Heap.lt_size hx)
  have X₁ : K.In h₁ := X.keeps hk₁
  have hx₁ := hk₁ _ _ hx
  have hlt : s.heap.objs.size < h₁.objs.size := hns.lt
  -- super().__init__(fld)
  have hsu : _root_.PySem.wpAt (model prog w) (A.deeper env) (.func (xB fld q1 q2 q3 q4 q5 q6 q7 q8 q9 q10) env) (attributeBase (.Call (.Name "super" q1) [] [] q2) "__init__" env (eval (.Call (.Name "super" q1) [] [] q2) env)) (fun ov s1 => ∃ h2, ov = .ref h₁.objs.size ∧ s1 = { s with heap := h2, toks := s.toks + 2 } ∧
      h2.get? h₁.objs.size = some (ks_superObj C x C) ∧ ∀ y o, h₁.get? y = some o → h2.get? y = some o) (fun _ _ => False) { s with heap := h₁, toks := s.toks + 2 } := by
    refine ks_wpAt_super_base (attr := "__init__") kS kCl (by decide) eF (X₁ _ _ ho) rfl rfl eK (X₁ _ _ hcda) rfl hvs hfile T.top ?_
    refine ks_loadName_global kk kS (loadGlobal_builtin (mg := mg) (mb := mb) (v := .type "super") ?_ T.gsu ?_ ((hBv _ (by decide)).trans (by decide +kernel)) ⟨rfl, ?_⟩)
    · rw [eG]; exact hG.keeps hk₁
    · rw [eB]; exact hBn.keeps hk₁
    refine wpAny_loadName_free kk kCl (by rw [eC]; rfl) ⟨_, X₁ _ _ hcell, rfl⟩ ?_
    refine wpAny_loadName_local (m := m) kk kSelf (by rw [eL]; exact hns) hself ?_
    refine ks_wpAny_isType_cls (X₁ _ _ hC) rfl ⟨rfl, ?_⟩
    refine ks_wpAny_call_super (X₁ _ _ hC) rfl hx₁ rfl (fun c e => by cases e) (looks_mroIn X₁ T.mC) (fun h' e k => ?_)
    exact ⟨h', rfl, rfl, e, k⟩
  have sup : (((Value.ref C :: bm).dropWhile (· != .ref C)).drop 1) = bm := by simp [List.dropWhile_cons]
  obtain ⟨pl, hpl⟩ := hsupq env
  refine ks_wpAt_execs_cons (ks_wpAt_Expr_any (ks_wpAt_MethodCall (he := hpl) (_root_.PySem.wpAt_mono hsu (fun ov s1 h1 => ?_) fun _ _ z => z.elim)) ?_ ?_)
  · obtain ⟨h2, rfl, rfl, hso, hk2⟩ := h1
    have X₂ : K.In h2 := X₁.keeps hk2
    have hx₂ := hk2 _ _ hx₁
    have hC₂ := X₂ _ _ hC
    have hI : Looks (model prog w) h2 (isInstance (.ref x) (.type B)) true := (show InstAt h2 x (excO C t0) C none from ⟨hx₂, rfl, rfl, trivial⟩).type.andThen (looks_subIn X₂ T.exB)
    have hmro : Looks (model prog w) h2 (mroOf (.ref C)) (.ref C :: bm) := (looks_clsIn X₂ hcl).andThen .now
    have hxC : x ≠ C := ks_ne X₂ (show InstAt h2 x (excO C t0) C none from ⟨hx₂, rfl, rfl, trivial⟩) hcl
    refine kxs_getMethod XK.KF hso (looks_opaque X₂ T.st) hmro sup X₂ halong hI hxC (by decide) ?_
    refine kxs_callWith (i := initId) (x := x) rfl ?_
    refine evalArgs_plain ?_
    have hu : (h2.push (kxs_mw initId x)).get? h2.objs.size = some (kxs_mw initId x) := Heap.get?_push_size _ rfl
    have k3 : ∀ b o, h2.get? b = some o → (h2.push (kxs_mw initId x)).get? b = some o := fun b o e => Heap.get?_push_of_some _ e
    have kL : ∀ b o, h₁.get? b = some o → (h2.push (kxs_mw initId x)).get? b = some o := fun b o e => k3 _ _ (hk2 _ _ e)
    refine Calls.spliced_cons (ldS (v := v) eL (hns.keeps kL) hfld kk kF XK.nd ?_)
    refine Calls.spliced_nil ?_
    refine ⟨hu, ?_⟩
    refine call_mw XK.F (k3 _ _ hC₂) (k3 _ _ hx₂) hu (one_size v) fun h4 t1 k4 hx4 => ?_
    -- self.fld = fld
    have X₄ : K.In h4 := kept_but (X₂.keeps k3) hnx k4
    obtain ⟨oL, es, ep, hoL, rL⟩ := id (hns.keeps kL)
    have hn4 : h4.Ns s.heap.objs.size m := ⟨oL, es, ep, k4 _ _ hxL hoL, rL⟩
    refine ks_wpAt_execs_cons (ks_wpAt_Assign_Attr ?_)
    refine wpAt_of_wpAny ?_
    refine ldS (s := ⟨h4, s.gens, s.drawn, _, s.os⟩) (v := v) eL hn4 hfld kk kF XK.nd ?_
    refine ldS (s := ⟨h4, s.gens, s.drawn, _, s.os⟩) (v := .ref x) eL hn4 hself kk kSelf (by decide) ?_
    refine set_plain X₄ (ox := excO C t1) (od := none) ⟨hx4, rfl, rfl, trivial⟩ T.sa ?_
    refine osa_first X₄ hx4 hcl hpass T.mO rfl T.noN (fun h5 tk5 dx k5 dn dne hx5 hn5 => ?_)
    show _root_.PySem.wpAt _ _ _ (execs [] env) _ _ _
    refine wpAt_of_wpAny (wpAny_execs_nil (hq h5 tk5 dx t1 ⟨fun b o hb e => k5 b o hb (k4 b o hb (kL _ _ (hk₁ _ _ e))), hx5, ?_, dne, hn5⟩))
    exact Nat.le_trans (Nat.le_of_lt hn4.lt) dn
  · unfold interactive; rw [eSc]; rfl
  · rfl
end
end K45
/-! ## E3 -/
namespace K45
section
open PySem PySem.Spec PySem.W PySem.Calls PyProof.Rows PySem.HandSPX
variable {prog : Program} {w : World} {A : Around} {R : Result → Shared → Prop} {s : Shared} {K : Frag} {mg : Str → Option Value} {nm fld : Str} {B newId initId : String} {tl : List Value} {C fI : Addr}
theorem own_made (XK : XKind fld B newId initId tl) (T : ExTxt prog K mg nm fld B newId initId tl C fI) {v : Value} (X : K.In s.heap) (hlim : s.heap.NoLimit) (hG : s.heap.Ns mainGlobals mg) (hB : ∃ mb, s.heap.Ns builtinsNs mb ∧ ∀ y : Str, y ≠ "__name__" → mb y = bootBuiltins y) (hroom : A.depth + 1 < recursionLimit)
    (hq : ∀ h' tk e d, OwnMade s.heap h' fld e C d v → R (.ok (.ret (.ref e))) { s with heap := h', toks := tk }) :
    codeAny (model prog w) A (.call (.ref C) ⟨[v], []⟩) R s := by
  obtain ⟨nm', q, N, bs, bm, sn, sub, ab, col, dd, k0, k1, k2, k3, k5, hC, hcont, _⟩ := T.cls
  obtain ⟨hp, g, dr, tk, os⟩ := s
  have k : ∀ b o, hp.get? b = some o → ((hp.push (kdv_tup [v])).push (excO C hp.objs.size)).get? b = some o := fun b o e => Heap.get?_push_of_some _ (Heap.get?_push_of_some _ e)
  have hget : ((hp.push (kdv_tup [v])).push (excO C hp.objs.size)).get? (hp.objs.size + 1) = some (excO C hp.objs.size) := by heap_get
  have hnx : K.lookup (hp.objs.size + 1) = none := by
    cases e : K.lookup (hp.objs.size + 1) with
    | none => rfl
    | some o =>
      have z : hp.get? (hp.objs.size + 1) = some o := X _ _ e
      exact absurd (Nat.lt_of_succ_lt (Heap.lt_size z)) (Nat.lt_irrefl _)
  obtain ⟨mb, hBn, hBv⟩ := hB
  refine call_own XK.F hcont (X _ _ hC) (looks_findIn X T.iC) (fun self => bind_fn X self T.tC) (one_size v) ?_
  refine own_init (s := ⟨(hp.push (kdv_tup [v])).push (excO C hp.objs.size), g, dr, tk, os⟩) XK T (X.keeps k) (hlim.keeps k) (hG.keeps k) ⟨mb, hBn.keeps k, hBv⟩ hget hnx ?_ fun h' tk' dx t1 ⟨k', hx, dn, dne, hns⟩ => ?_
  · show A.depth + 1 < recursionLimit
    exact hroom
  · have old : ∀ b o, hp.get? b = some o → h'.get? b = some o := fun b o e => k' b o (Nat.ne_of_lt (Nat.lt_succ_of_lt (Heap.lt_size e))) (k b o e)
    have z : hp.objs.size + 1 + 1 ≤ dx := by
      first
        | (simpa only [Heap.size_push] using dn)
        | exact dn
        | (have q := dn; rw [Heap.size_push, Heap.size_push] at q; exact q)
    exact ⟨rfl, hq h' tk' (hp.objs.size + 1) dx ⟨old, Nat.le_succ _, ⟨_, _, hx, rfl, rfl, rfl, rfl⟩, Nat.le_trans (Nat.le_trans (Nat.le_succ _) (Nat.le_succ _)) z, dne, hns⟩⟩
end
section
open PySem PySem.Spec PyProof.Rows L2
theorem relO_one {fld : Str} {v : V} {v' : Value} (r : RelV v v') (f : Str) : RelO (List.lookup f [(fld, v)]) (if f = fld then some v' else none) := by
  by_cases hw : f = fld
  · subst hw
    rw [if_pos rfl]
    have q : List.lookup f [(f, v)] = some v := by simp [List.lookup]
    rw [q]
    exact r
  · rw [if_neg hw]
    have qw : (f == fld) = false := by simpa using hw
    have q2 : List.lookup f [(fld, v)] = none := by simp [List.lookup, qw]
    rw [q2]
    trivial
variable {X : Cx} {nm fld : Str} {B newId initId : String} {tl : List Value} {C fI : Addr}
/-- nm(e) -/
def tMkX (fld : Str) (C : Addr) (ta : TA) : L2.St → Hp → XK → Prop := fun σ H Q => ta σ H fun vs H1 => ∃ v, vs = [v] ∧ ∀ d, H1 d = none → Q (.ref C) (some d) (upd H1 d (.xd [(fld, v)]))
theorem pmk_own {a : Expr} {ta : TA} {p pos : Pos} {k : Nat} (XK : XKind fld B newId initId tl) (T : ExTxt X.prog X.K X.mg nm fld B newId initId tl C fI) (hr : Room k X.A) (ha : PA X [a] ta) (hg : Gl X nm) (hdb : (nm == ("__debug__" : Str)) = false)
    (he : starEach (a :: []) X.env = (false, eval a X.env) :: starEach [] X.env := by rfl) (hpl : (backTo pos (starEach [] X.env)).any (·.1) = false := by rfl) :
    PMk X (.Call (.Name nm p) [a] [] pos) (tMkX fld C ta) := by
  intro pins s σ H Q I h
  refine wpAny_Call_Name_kw (ld_glob I hg T.gC ?_ hdb)
  refine PySem.W.callWith_K (h₀ := X.base) I.ok.mod.kin T.kC (thn (ha.run pos pins s σ H _ I h) fun us s1 hh => ?_) he hpl
  obtain ⟨vs, H1, I1, r1, v, ev, q1⟩ := hh
  subst ev
  refine ⟨I1.kIn, ?_⟩
  cases r1 with
  | cons rv rn =>
    rename_i v' us'
    cases rn
    show wpAny _ _ (call (.ref C) [v']) _ _ _
    have hlim := I1.nolimit
    have hG := I1.ok.mod.glob.keeps I1.bk
    obtain ⟨mb, hBn, hBv⟩ := I1.ok.mod.blt
    have hB := hBn.keeps I1.bk
    obtain ⟨hp, g, dr, tk, os⟩ := s1
    refine wpAny_call (own_made XK T I1.kIn hlim hG ⟨mb, hB, hBv⟩ (by have := hr.dp; omega) fun h' tk' e d M => ?_)
    show MkP X pins σ Q (.ref e) ⟨h', g, dr, tk', os⟩
    obtain ⟨oe, fv, hoe, hc, hd, hdat, h1⟩ := M.obj
    have hns := M.ns
    obtain ⟨G', g1, g2⟩ := restrict h' fun b => decide (b ≠ e)
    have gk : ∀ b, b ≠ e → G'.get? b = h'.get? b := fun b hb => g1 b (decide_eq_true hb)
    have ge : G'.get? e = none := g2 e (by simp)
    have old : ∀ b o, hp.get? b = some o → G'.get? b = some o := fun b o q => (gk b (Nat.ne_of_lt (Nat.lt_of_lt_of_le (Heap.lt_size q) M.new))).trans (M.keep b o q)
    have ob : ObjOk X.prog X.w (upd H1 d (.xd [(fld, v)])) G' d (.xd [(fld, v)]) :=
      ⟨_, hns.at (fun o q => (gk d M.dne).trans q), fun f => relO_one rv f⟩
    have J : L2.Inv X pins σ (upd H1 d (.xd [(fld, v)])) ⟨G', g, dr, tk', os⟩ := I1.laid (t' := tk') old M.dbig ob
    refine ⟨e, oe, fv, ⟨G', g, dr, tk', os⟩, _, .ref C, some d, rfl, J, fun b o q => ?_, ge, hoe, ⟨hc, hd⟩, hdat, h1, ?_, rfl, I1.bare, raises_own T.exC T.tyC, q1 d (I1.hok.fresh M.dbig)⟩
    · by_cases hb : b = e
      · have q' : G'.get? b = some o := q
        rw [hb, ge] at q'; cases q'
      · exact (gk b hb).symm.trans q
    · rw [upd_ne (Ne.symm M.dne)]
      exact I1.hok.fresh M.new
/-- raise nm(e) -/
def tRaiseX (fld : Str) (C : Addr) (W : WX) (ta : TA) : TS := fun _ σ H => tMkX fld C ta σ H fun cls d H' => W cls d σ H'
theorem ps_raiseX {a : Expr} {ta : TA} {W : WX} {p pos pos2 : Pos} {k : Nat} (XK : XKind fld B newId initId tl) (T : ExTxt X.prog X.K X.mg nm fld B newId initId tl C fI) (hc : X.calm = true) (hr : Room k X.A) (tk : Takes X W) (ha : PA X [a] ta) (hg : Gl X nm := by rfl) (hdb : (nm == ("__debug__" : Str)) = false := by decide)
    (he : starEach (a :: []) X.env = (false, eval a X.env) :: starEach [] X.env := by rfl) (hpl : (backTo pos (starEach [] X.env)).any (·.1) = false := by rfl) :
    PS X (.Raise (some (.Call (.Name nm p) [a] [] pos)) none pos2) (tRaiseX fld C W ta) := ps_raise hc tk (pmk_own XK T hr ha hg hdb he hpl)
/-- isinstance(e, c), e the exception that the suite holds, with a dict -/
theorem call_isX {a D dd : Addr} {oe : Obj} {pn : List (Addr × Obj)} {H' : Hp} (C : ExcC X.K D) (hz : Zc (.ref D) (some dd) oe) (hf : ∃ vs, oe.data = .fields vs) :
    CallR (X.suite a ((a, oe) :: pn)) (.builtin "isinstance") (fun xs H Q => (∃ fs, H dd = some (.xd fs)) ∧ rIsE X.K D a xs H Q) := by
  intro pins s σ H xs us Q I r h
  obtain ⟨⟨fs, hdd⟩, c, cv, b, rfl, hcv, e, q⟩ := h
  cases r with
  | cons rx rr =>
    cases rr with
    | cons rt rr =>
      cases rr
      cases rx
      have ec := hcv _ rt
      subst ec
      obtain ⟨hget, _⟩ := I.pin (a, oe) (List.mem_append.mpr (.inl List.mem_cons_self))
      obtain ⟨vs, hv⟩ := hf
      have hx : ObjOk X.prog X.w H s.heap dd (.xd fs) := I.hok dd _ hdd
      obtain ⟨mA, ⟨od, es, ep, hod, _⟩, _⟩ := hx
      have J : PySem.W.InstAt s.heap a oe D (some od) := by
        obtain ⟨oc, odd, oda, osl⟩ := oe
        obtain ⟨h1, h2⟩ := hz
        dsimp only at h1 h2 hv
        subst h1 h2 hv
        exact ⟨hget, rfl, rfl, hod⟩
      obtain ⟨cdD, hcD, _⟩ := PySem.W.any_some C.hd
      exact PySem.W.kia_one (PySem.W.kitx_exc (by rw [hcD]; rfl) C.hg C.hk C.hs C.ha C.hn C.ht C.hm) I.kIn J e (fun z => nomatch z) fun tk => ⟨.bl b, H, I.kept (t' := tk) fun _ _ z => z, rfl, q⟩
end
end K45
/-! ## W13 -/
namespace K45
open PySem PySem.Spec PyProof.Rows L2
/-! ### promises of the defs that raise -/
def xdO (fld : Str) (v : V) : HO := .xd [(fld, v)]
def spChkS (C : Addr) : Sp := fun vs H Q E => ∃ (a : Addr) (r : Row), vs = [.ref a] ∧ RowAt H a r ∧ RowB r ∧ (r.Sound → ∀ H', Same H H' → Q .non H') ∧ (¬ r.Sound → ∀ H' d, Same H H' → H' d = none → E (.ref C) (some d) (upd H' d (xdO "power" (.int r.P))))
instance (f : Fo) (r : Row) : Decidable (r.Fine f) := inferInstanceAs (Decidable (_ ≤ _))
def spChkF (C D : Addr) : Sp := fun vs H Q E => ∃ (fa a : Addr) (f : Fo) (r : Row), vs = [.ref fa, .ref a] ∧ FoAt H fa f ∧ FoB f ∧ RowAt H a r ∧ RowB r ∧ (r.Sound → r.Fine f → ∀ H', Same H H' → Q .non H') ∧
  (¬ r.Sound → ∀ H' d, Same H H' → H' d = none → E (.ref C) (some d) (upd H' d (xdO "power" (.int r.P)))) ∧ (r.Sound → ¬ r.Fine f → ∀ H' d, Same H H' → H' d = none → E (.ref D) (some d) (upd H' d (xdO "power" (.int r.P))))
/-- the index is of no piece -/
def NoIx (qs : List Piece) (x : V) : Prop := ∀ i : Int, x = .int i → i < 0 ∨ countIn qs ≤ i
def spAtIn (K : PySem.W.Frag) (C : Addr) : Sp := fun vs H Q E => ∃ (a : Addr) (qs : List Piece) (x : V) (b : Bool), vs = [.ref a, x] ∧ PsAt H a qs ∧ (∀ q ∈ qs, PcB q) ∧ WhV K H x b ∧ (b = true → ∃ i, x = .int i) ∧ (b = false → ∀ i, x ≠ .int i) ∧
  (∀ H' (k : Nat) q y left, Same H H' → qs[k]? = some q → 0 ≤ left → x = .int (countIn (qs.take k) + left) → q.lo ≤ y → y < q.hi → rsum q.diff q.lo y ≤ left → left < rsum q.diff q.lo (y + 1) → Q (.int y) H') ∧
  (NoIx qs x → ∀ H' d, Same H H' → H' d = none → E (.ref C) (some d) (upd H' d (xdO "index" x)))
abbrev XKp : Prop := XKind "power" "ValueError" "ValueError.__new__" "ValueError.__init__" [.type "ValueError", .type "Exception", .type "BaseException", .type "object"]
abbrev XKi : Prop := XKind "index" "LookupError" "LookupError.__new__" "LookupError.__init__" [.type "LookupError", .type "Exception", .type "BaseException", .type "object"]
abbrev TxP (P : Program) (K : PySem.W.Frag) (mg : Str → Option Value) (nm : Str) (C fI : Addr) : Prop := ExTxt P K mg nm "power" "ValueError" "ValueError.__new__" "ValueError.__init__" [.type "ValueError", .type "Exception", .type "BaseException", .type "object"] C fI
abbrev TxI (P : Program) (K : PySem.W.Frag) (mg : Str → Option Value) (nm : Str) (C fI : Addr) : Prop := ExTxt P K mg nm "index" "LookupError" "LookupError.__new__" "LookupError.__init__" [.type "LookupError", .type "Exception", .type "BaseException", .type "object"] C fI
theorem countIn_next {qs : List Piece} {i : Nat} {q : Piece} (h : qs[i]? = some q) : countIn (qs.take (i + 1)) = countIn (qs.take i) + q.steps q.lo q.hi := by
  unfold countIn
  rw [take_next h, List.map_append, List.sum_append]
  show _ + (q.steps q.lo q.hi + 0) = _
  omega
section
variable {P : Program} {w : World} {K : PySem.W.Frag} {mg : Str → Option Value} {base : Heap} {CS CC CI fS fC fI : Addr}
theorem sc_check_sound : FnScope ["row"] ["row"] (defScope s_check_sound) := ⟨rfl, rfl, rfl, by decide +kernel, rfl, by decide +kernel, by decide +kernel⟩
theorem cl_check_sound (D : DefAt K mg "check_sound" s_check_sound) (XK_power : XKp) (T_NotSound : TxP P K mg "NotSound" CS fS) (c_is_sound : Cl P w K mg base CX0 3 "is_sound" spSound) : Cl P w K mg base (L2.CX P w) 4 "check_sound" (spChkS CS) := by
  refine cl_of D (fun _ _ _ _ _ _ us hl => match us, hl with | [_], _ => rfl) sc_check_sound (fun vs H Q E h => ?_) (fun f cdv A outer s H vs Q E hr h => ?_)
  · obtain ⟨a, r, rfl, _⟩ := h
    rfl
  · obtain ⟨a, r, rfl, ha, br, kS, kN⟩ := h
    refine ⟨_, (pss_one (ps_if (pt_not (pt_val (pe_cl c_is_sound hr (by decide) pass0 (pa_cons (pv 0) pa_nil))))
        (pss_one (ps_raiseX XK_power T_NotSound rfl hr (takes_of rfl rfl rfl rfl) (pa_cons (pe_ix ix_tup (pv 0) pe_int (fun _ _ => rfl)) pa_nil)))
        pss_nil)), ?_⟩
    refine ⟨_, rfl, a, r, rfl, ha, br, fun H1 s1 => ⟨_, rfl, ?_⟩⟩
    by_cases hs : r.Sound
    · rw [decide_eq_true hs]
      exact iteF (kS hs H1 s1)
    · rw [decide_eq_false hs]
      refine iteT ⟨_, rfl, a, _, 0, .int r.P, rfl, rfl, SqT.of (s1 _ _ ha), rfl, _, rfl, fun d hd => ?_⟩
      exact kN hs H1 d s1 hd
theorem sc_check_fine : FnScope ["form", "row"] ["form", "row"] (defScope s_check_fine) := ⟨rfl, rfl, rfl, by decide +kernel, rfl, by decide +kernel, by decide +kernel⟩
theorem cl_check_fine (D : DefAt K mg "check_fine" s_check_fine) (XK_power : XKp) (T_Coarse : TxP P K mg "Coarse" CC fC) (c_check_sound : Cl P w K mg base (L2.CX P w) 4 "check_sound" (spChkS CS)) : Cl P w K mg base (L2.CX P w) 5 "check_fine" (spChkF CS CC) := by
  refine cl_of D (fun _ _ _ _ _ _ us hl => match us, hl with | [_, _], _ => rfl) sc_check_fine (fun vs H Q E h => ?_) (fun f cdv A outer s H vs Q E hr h => ?_)
  · obtain ⟨a, b, f, r, rfl, _⟩ := h
    rfl
  · obtain ⟨fa, a, f, r, rfl, hf, bf, ha, br, kO, kS, kF⟩ := h
    refine ⟨_, (pss_cons (ps_expr (pe_cl c_check_sound hr (by decide) (passes_call (takes_of rfl rfl rfl rfl) (fun _ _ _ _ h => h)) (pa_cons (pv 1) pa_nil)))
      (pss_one (ps_if (pt_cmpR op_lt (pe_ix ix_tup (pv 1) pe_int (fun _ _ => rfl)) (pe_op op_shl (pe_op op_mul pe_int (pe_ix ix_tup (pv 1) pe_int (fun _ _ => rfl))) (pe_ix ix_tup (pv 0) pe_int (fun _ _ => rfl))) (nomark _))
        (pss_one (ps_raiseX XK_power T_Coarse rfl hr (takes_of rfl rfl rfl rfl) (pa_cons (pe_ix ix_tup (pv 1) pe_int (fun _ _ => rfl)) pa_nil)))
        pss_nil))), ?_⟩
    refine ⟨_, rfl, a, r, rfl, ha, br, fun hs H1 s1 => ?_, fun hs H1 d s1 hd => kS hs H1 d s1 hd⟩
    have := bf.p1
    have := bf.p5
    have := br.h0
    have := br.h3
    refine ⟨_, rfl, a, _, 1, .int r.g, rfl, rfl, SqT.of (s1 _ _ ha), rfl, ?_⟩
    refine ⟨_, rfl, a, _, 3, .int r.h, rfl, rfl, SqT.of (s1 _ _ ha), rfl, ?_⟩
    refine ⟨_, _, rfl, rfl, .inl ⟨by decide, by decide⟩, ?_⟩
    refine ⟨_, rfl, fa, _, 0, .int f.p, rfl, rfl, SqT.of (s1 _ _ hf), rfl, ?_⟩
    refine ⟨_, _, rfl, rfl, ⟨by omega, by omega, by omega⟩, _, _, rfl, rfl, _, rfl, ?_⟩
    have e : (r.g < 2 * r.h * 2 ^ (f.p : Int).toNat) ↔ ¬ r.Fine f := by
      unfold Row.Fine
      rw [Int.toNat_natCast]
      omega
    by_cases hF : r.Fine f
    · rw [decide_eq_false (fun z => e.mp z hF)]
      exact iteF (kO hs hF H1 s1)
    · rw [decide_eq_true (e.mpr hF)]
      refine iteT ⟨_, rfl, a, _, 0, .int r.P, rfl, rfl, SqT.of (s1 _ _ ha), rfl, _, rfl, fun d hd => ?_⟩
      exact kF hs hF H1 d s1 hd
theorem sc_at_in : FnScope ["found", "index", "left", "low", "high", "lower", "upper", "many"] ["found", "index"] (defScope s_at_in) := ⟨rfl, rfl, rfl, by decide +kernel, rfl, by decide +kernel, by decide +kernel⟩
theorem cl_at_in (D : DefAt K mg "at_in" s_at_in) (XK_index : XKi) (T_NoIndex : TxI P K mg "NoIndex" CI fI) (c_is_whole : Cl P w K mg base CX0 1 "is_whole" (spWhole K)) (c_steps_between : Cl P w K mg base CX0 6 "steps_between" spSteps) (c_place_in : Cl P w K mg base CX0 7 "place_in" spPlace) :
    Cl P w K mg base (L2.CX P w) 8 "at_in" (spAtIn K CI) := by
  refine cl_of D (fun _ _ _ _ _ _ us hl => match us, hl with | [_, _], _ => rfl) sc_at_in (fun vs H Q E h => ?_) (fun f cdv A outer s H vs Q E hr h => ?_)
  · obtain ⟨a, b, f, r, rfl, _⟩ := h
    rfl
  · obtain ⟨a, qs, x, b, rfl, hq, bq, hw, hb, hbf, kI, kN⟩ := h
    refine ⟨_, (pss_cons (ps_if (PW.pt (pw_or (pt_not (pt_val (pe_cl c_is_whole hr (by decide) pass0 (pa_cons (pv 1) pa_nil)))) (pw_or1 (pt_cmpR op_lt (pv 1) pe_int (nomark _)))))
        (pss_one (ps_raiseX XK_index T_NoIndex rfl hr (takes_of rfl rfl rfl rfl) (pa_cons (pv 1) pa_nil)))
        pss_nil)
      (pss_cons (ps_set (i := 2) sc_at_in.nd rfl (Or.inl rfl) (pv 1))
      (pss_cons (ps_for (passes_of rfl) rfl (pi_list (pv 0)) (pg_tup rfl (pgs_cons (pg_name (i := 3) sc_at_in.nd rfl (Or.inl rfl)) (pgs_cons (pg_name (i := 4) sc_at_in.nd rfl (Or.inl rfl)) (pgs_cons (pg_name (i := 5) sc_at_in.nd rfl (Or.inl rfl)) (pgs_cons (pg_name (i := 6) sc_at_in.nd rfl (Or.inl rfl)) pgs_nil)))))
        (pss_cons (ps_set (i := 7) sc_at_in.nd rfl (Or.inl rfl) (pe_cl c_steps_between hr (by decide) pass0 (pa_cons (pv 5) (pa_cons (pv 6) (pa_cons (pv 3) (pa_cons (pv 4) pa_nil))))))
        (pss_cons (ps_if (pt_cmpR op_lt (pv 2) (pv 7) (nomark _))
          (pss_one (ps_ret (pe_cl c_place_in hr (by decide) pass0 (pa_cons (pe_tup (pa_cons (pv 3) (pa_cons (pv 4) (pa_cons (pv 5) (pa_cons (pv 6) pa_nil))))) (pa_cons (pv 2) pa_nil)))))
          pss_nil)
        (pss_one (ps_aug (i := 2) sc_at_in.nd rfl (Or.inl rfl) (pv 7) ip_sub)))))
      (pss_one (ps_raiseX XK_index T_NoIndex rfl hr (takes_of rfl rfl rfl rfl) (pa_cons (pv 1) pa_nil)))))), ?_⟩
    refine ⟨_, rfl, x, b, rfl, hw, _, rfl, ?_⟩
    obtain ⟨as, has, pr⟩ := hq
    have ln := Paired.len pr
    cases b with
    | false =>
      have no : NoIx qs x := fun i e => absurd e (hbf rfl i)
      exact iteT (iteT ⟨_, rfl, _, rfl, fun d hd => kN no H d (fun _ _ e => e) hd⟩)
    | true =>
      obtain ⟨index, rfl⟩ := hb rfl
      refine iteF ⟨_, rfl, _, _, rfl, rfl, _, rfl, ?_⟩
      by_cases hneg : index < 0
      · rw [decide_eq_true hneg]
        refine iteT ⟨_, rfl, _, rfl, fun d hd => kN (fun i e => ?_) H d (fun _ _ e => e) hd⟩
        cases e
        exact .inl hneg
      · rw [decide_eq_false hneg]
        refine iteF ⟨_, rfl, ?_⟩
        refine ⟨_, rfl, a, rfl, ⟨_, SqL.of has⟩, for_list (K := K) (a := a) (xs := as.map V.ref) (fun i σ H' => ∃ v1 v2 v3 v4 v5, σ = [some (.ref a), some (.int index), some (.int (index - countIn (qs.take i))), v1, v2, v3, v4, v5] ∧ Same H H' ∧ countIn (qs.take i) ≤ index)
          ⟨none, none, none, none, none, ?_, fun _ _ e => e, ?_⟩ (fun i σ H' _ ⟨_, _, _, _, _, _, s2, _⟩ => SqL.of (s2 _ _ has)) ?_ ?_⟩
        · show _ = [_, _, some (V.int (index - 0)), _, _, _, _, _]
          rw [Int.sub_zero]
          rfl
        · show (0 : Int) ≤ index
          omega
        · rintro i y σ H2 hx ⟨v1, v2, v3, v4, v5, rfl, s2, i1⟩
          obtain ⟨r, hr, rfl⟩ := map_get hx
          obtain ⟨q, hq, hqa⟩ := Paired.get pr hr
          obtain ⟨l, u, z1, z2, z3⟩ := hqa.same s2
          obtain ⟨l0, lh, h1, lb, ub⟩ := bq q (mem_of_get hq)
          have nx := countIn_next hq
          refine ⟨r, _, rfl, SqT.of z1, rfl, _, _, rfl, _, _, rfl, _, _, rfl, _, _, rfl, rfl, ?_⟩
          refine ⟨_, rfl, _, rfl, _, rfl, _, rfl, l, u, q.lower, q.upper, q.lo, q.hi, rfl, z2, z3, lb, ub, l0, by omega, by omega, fun H4 s4 => ?_⟩
          refine ⟨_, rfl, _, rfl, _, _, rfl, rfl, _, rfl, ?_⟩
          have eq : sumStair q.upper q.lo q.hi - sumStair q.lower q.lo q.hi = q.steps q.lo q.hi := rfl
          rw [eq]
          by_cases hlt : index - countIn (qs.take i) < q.steps q.lo q.hi
          · rw [decide_eq_true hlt]
            refine iteT ⟨_, rfl, _, rfl, _, rfl, _, rfl, (by show 4 ≤ sizeLine; decide), fun p hp => ?_⟩
            have s5 := (s2.trans s4).trans (same_of_upd (o := .tup [.int q.lo, .int q.hi, .ref l, .ref u]) hp)
            refine ⟨_, rfl, p, q, index - countIn (qs.take i), rfl, ⟨l, u, upd_same, ?_, ?_⟩, bq q (mem_of_get hq), by omega, hlt, fun H6 y s6 y0 y1 y2 y3 => ?_⟩
            · exact (z2.same s4).same (same_of_upd hp)
            · exact (z3.same s4).same (same_of_upd hp)
            · exact kI H6 i q y _ (s5.trans s6) hq (by omega) (by congr 1; omega) y0 y1 y2 y3
          · rw [decide_eq_false hlt]
            refine iteF ⟨_, rfl, _, rfl, _, _, rfl, rfl, ?_⟩
            refine ⟨some (.int q.lo), some (.int q.hi), some (.ref l), some (.ref u), some (.int (q.steps q.lo q.hi)), ?_, s2.trans s4, by omega⟩
            rw [nx, show index - (countIn (qs.take i) + q.steps q.lo q.hi) = index - countIn (qs.take i) - q.steps q.lo q.hi by omega]
            rfl
        · rintro σ H2 ⟨v1, v2, v3, v4, v5, rfl, s2, i1⟩
          refine ⟨_, rfl, _, rfl, fun d hd => kN (fun i e => ?_) H2 d s2 hd⟩
          cases e
          right
          rw [List.length_map, ln, List.take_length] at i1
          exact i1
end
end K45
/-! ## W14 -/
namespace K45
open PySem PySem.Spec PyProof.Rows L2
/-! ### the bounds of the pieces; what they count -/
theorem kindStair_c {k : Kind} {w : Way} {l : Line} (h0 : 0 < l.c) (h1 : l.c < 2 ^ 90) : StB (kindStair k w l) := by
  refine ⟨?_, fun m hm => ?_⟩
  · cases k <;> cases w <;> exact Nat.le_of_ble_eq_true rfl
  · cases k <;> cases w <;> simp only [kindStair, List.mem_cons, List.not_mem_nil, or_false] at hm <;> (try rcases hm with rfl | rfl) <;> (try subst hm) <;> exact ⟨by (try dsimp only); omega, by (try dsimp only); omega⟩
theorem stairOn_b {k : Kind} {f : Fo} {w : Way} {s : Sl} {e : Int} (bf : FoB f) (bs : SlB s) : StB (stairOn k f w s e) := by
  unfold stairOn
  split
  · rename_i he
    have := bf.l1
    have := bf.J8
    have hh : f.high = f.low + f.J := rfl
    have e1 := pp_pos e
    have e2 : pp e ≤ 2 ^ 12 := pp_le (by omega)
    obtain ⟨n0, n1, d0, d1⟩ := bs
    have h1 : (posLine f s e).c = s.den * pp e := rfl
    have h2 := Int.mul_pos d0 e1
    have h3 : s.den * pp e < 2 ^ 60 * 2 ^ 12 := Int.lt_of_lt_of_le (Int.mul_lt_mul_of_pos_right d1 e1) (Int.mul_le_mul_of_nonneg_left e2 (by decide))
    exact kindStair_c (by rw [h1]; exact h2) (by rw [h1]; exact Int.lt_trans h3 (by decide))
  · exact ⟨by show 1 ≤ 4; decide, fun l hl => by rw [List.mem_singleton.mp hl]; exact ⟨(by decide : (0 : Int) < 1), (by decide : (1 : Int) < 2 ^ 100)⟩⟩
theorem pick_b {r : Row} (b : RowB r) (w : Way) : SlB (r.pick w).s1 ∧ SlB (r.pick w).s2 := by
  unfold Row.pick
  split <;> split <;> exact ⟨by first | exact b.run_b | exact b.val_b, by first | exact b.run_b | exact b.val_b⟩
theorem steps_pieces {r : Row} (b : RowB r) {f : Fo} {w : Way} {word : Nat} (w1 : 1 ≤ word) (w8 : word ≤ 8) (h0 : r.h ≠ 0) :
    Pieces f w (r.pick w) (lastOf word) (cutsOf f (lastOf word) [(r.pick w).s1, (r.pick w).s2]) (stepsOf r f w word) := by
  have l := lastOf_b w1 w8
  unfold stepsOf
  rw [if_neg h0]
  have po := Row.pick_ok b.ok w
  refine piecesOf_ok (cutsOf_ok l.1 fun s hs => ?_) l.1
  rcases List.mem_cons.mp hs with rfl | hs
  · exact po.1
  · rw [List.mem_singleton.mp hs]; exact po.2
theorem steps_b {r : Row} (b : RowB r) {f : Fo} (bf : FoB f) {w : Way} {word : Nat} (w1 : 1 ≤ word) (w8 : word ≤ 8) : ∀ q ∈ stepsOf r f w word, PcB q := by
  intro q hq
  by_cases h0 : r.h = 0
  · unfold stepsOf at hq
    rw [if_pos h0] at hq
    cases hq
  · have pi := steps_pieces b (f := f) (w := w) w1 w8 h0
    have l := lastOf_b w1 w8
    have po := Row.pick_ok b.ok w
    have pb := pick_b b w
    have hs : ∀ s ∈ [(r.pick w).s1, (r.pick w).s2], s.Ok := fun s hs => by
      rcases List.mem_cons.mp hs with rfl | hs
      · exact po.1
      · rw [List.mem_singleton.mp hs]; exact po.2
    obtain ⟨i, hi⟩ := List.getElem?_of_mem hq
    obtain ⟨lo, hi', k1, k2, k3⟩ := pi.each i q hi
    have r1 := pi.cuts.range l.1 hs (List.mem_of_getElem? k1)
    have r2 := pi.cuts.range l.1 hs (List.mem_of_getElem? k2)
    have lt : lo < hi' := by
      have a := List.getElem?_eq_some_iff.mp k1
      have c := List.getElem?_eq_some_iff.mp k2
      obtain ⟨a1, rfl⟩ := a
      obtain ⟨c1, rfl⟩ := c
      exact List.pairwise_iff_getElem.mp pi.cuts.up i (i + 1) a1 c1 (Nat.lt_succ_self i)
    refine ⟨by rw [k3.lo]; omega, by rw [k3.lo, k3.hi]; exact lt, by rw [k3.hi]; omega, ?_, ?_⟩
    · rw [k3.lower]; exact stairOn_b bf pb.1
    · rw [k3.upper]; exact stairOn_b bf pb.2
theorem steps_len {r : Row} {f : Fo} {w : Way} {word : Nat} (w1 : 1 ≤ word) (w8 : word ≤ 8) : (stepsOf r f w word).length ≤ 1000 := by
  unfold stepsOf
  split
  · show 0 ≤ 1000
    omega
  · have l := lastOf_b w1 w8
    have := cutsOf_len f (lastOf word) [(r.pick w).s1, (r.pick w).s2]
    rw [piecesOf_len]
    omega
/-- the wrong numbers -/
def wrongs (r : Row) (f : Fo) (w : Way) (word : Nat) : List Int := wl (r.wrong f w) (2 ^ word - 1)
theorem last_nat (word : Nat) : lastOf word = ((2 ^ word - 1 : Nat) : Int) := by
  have : 1 ≤ 2 ^ word := Nat.one_le_two_pow
  unfold lastOf
  rw [Int.natCast_sub this]
  simp
theorem steps_chain {r : Row} (b : RowB r) {f : Fo} (bf : FoB f) {w : Way} {word : Nat} (w1 : 1 ≤ word) (w8 : word ≤ 8) (so : r.Sound) (fi : r.Fine f) (h0 : r.h ≠ 0) : Chain (gOf (r.wrong f w)) 1 (lastOf word + 1) (stepsOf r f w word) := by
  have po := Row.pick_ok b.ok w
  have := b.h0
  exact (steps_pieces b w1 w8 h0).chain (lastOf_b w1 w8).1 bf.p1 po.1 po.2 fun x hx _ => Row.pick_g b.ok (by omega) bf.p1 so fi w hx
theorem steps_count {r : Row} (b : RowB r) {f : Fo} (bf : FoB f) {w : Way} {word : Nat} (w1 : 1 ≤ word) (w8 : word ≤ 8) (so : r.Sound) (fi : r.Fine f) : countIn (stepsOf r f w word) = ((wrongs r f w word).length : Int) := by
  by_cases h0 : r.h = 0
  · unfold wrongs stepsOf
    rw [Row.wrong_exact b.ok h0 so bf.p1 w, if_pos h0]
    rfl
  · rw [countIn_eq (steps_chain b bf w1 w8 so fi h0)]
    unfold wrongs
    rw [wl_length, ← last_nat]
theorem steps_at {r : Row} (b : RowB r) {f : Fo} (bf : FoB f) {w : Way} {word : Nat} (w1 : 1 ≤ word) (w8 : word ≤ 8) (so : r.Sound) (fi : r.Fine f) {k : Nat} {q : Piece} {y left : Int} (hq : (stepsOf r f w word)[k]? = some q) (h0' : 0 ≤ left)
    (h1 : q.lo ≤ y) (h2 : y < q.hi) (h3 : rsum q.diff q.lo y ≤ left) (h4 : left < rsum q.diff q.lo (y + 1)) : 0 ≤ countIn ((stepsOf r f w word).take k) + left ∧ (wrongs r f w word)[(countIn ((stepsOf r f w word).take k) + left).toNat]? = some y := by
  have h0 : r.h ≠ 0 := fun h0 => by
    unfold stepsOf at hq
    rw [if_pos h0] at hq
    cases hq
  have I := isAt_of (gOf_range (r.wrong f w)) (steps_chain b bf w1 w8 so fi h0) hq h1 h2 h3 h4
  obtain ⟨lo, hi, be, he⟩ := I
  rw [last_nat] at hi
  have z := wl_at (r.wrong f w) (2 ^ word - 1) y lo (by omega) he
  rw [be] at z
  have p := rsum_pos (g := gOf (r.wrong f w)) (a := 1) (b := y) fun x _ _ => (gOf_range _ x).1
  rw [be] at p
  exact ⟨p, z⟩
/-! ### count_wrong, wrong_at -/
def spCW (C D : Addr) : Sp := fun vs H Q E => ∃ (fa ra : Addr) (f : Fo) (wy : Way) (word : Nat) (r : Row), vs = [.ref fa, .str (wayS wy), .int (word : Int), .ref ra] ∧ FoAt H fa f ∧ FoB f ∧ 1 ≤ word ∧ word ≤ 8 ∧ RowAt H ra r ∧ RowB r ∧
  (r.Sound → r.Fine f → ∀ H', Same H H' → Q (.int ((wrongs r f wy word).length : Int)) H') ∧
  (¬ r.Sound → ∀ H' d, Same H H' → H' d = none → E (.ref C) (some d) (upd H' d (xdO "power" (.int r.P)))) ∧ (r.Sound → ¬ r.Fine f → ∀ H' d, Same H H' → H' d = none → E (.ref D) (some d) (upd H' d (xdO "power" (.int r.P))))
/-- no number has this index -/
def NoWr (ws : List Int) (x : V) : Prop := ∀ i : Int, x = .int i → i < 0 ∨ (ws.length : Int) ≤ i
def spWA (K : PySem.W.Frag) (C D N : Addr) : Sp := fun vs H Q E => ∃ (fa ra : Addr) (f : Fo) (wy : Way) (word : Nat) (r : Row) (x : V) (b : Bool), vs = [.ref fa, .str (wayS wy), .int (word : Int), .ref ra, x] ∧ FoAt H fa f ∧ FoB f ∧ 1 ≤ word ∧ word ≤ 8 ∧ RowAt H ra r ∧ RowB r ∧
  (∀ H', Same H H' → WhV K H' x b) ∧ (b = true → ∃ i, x = .int i) ∧ (b = false → ∀ i, x ≠ .int i) ∧
  (r.Sound → r.Fine f → ∀ H' (i : Nat) y, Same H H' → x = .int (i : Int) → (wrongs r f wy word)[i]? = some y → Q (.int y) H') ∧
  (r.Sound → r.Fine f → NoWr (wrongs r f wy word) x → ∀ H' d, Same H H' → H' d = none → E (.ref N) (some d) (upd H' d (xdO "index" x))) ∧
  (¬ r.Sound → ∀ H' d, Same H H' → H' d = none → E (.ref C) (some d) (upd H' d (xdO "power" (.int r.P)))) ∧ (r.Sound → ¬ r.Fine f → ∀ H' d, Same H H' → H' d = none → E (.ref D) (some d) (upd H' d (xdO "power" (.int r.P))))
section
variable {P : Program} {w : World} {K : PySem.W.Frag} {mg : Str → Option Value} {base : Heap} {CS CC CI fS fC fI : Addr}
theorem sc_count_wrong : FnScope ["form", "way", "word", "row"] ["form", "way", "word", "row"] (defScope s_count_wrong) := ⟨rfl, rfl, rfl, by decide +kernel, rfl, by decide +kernel, by decide +kernel⟩
theorem cl_count_wrong (D : DefAt K mg "count_wrong" s_count_wrong) (c_check_fine : Cl P w K mg base (L2.CX P w) 5 "check_fine" (spChkF CS CC)) (c_count_in : Cl P w K mg base CX0 7 "count_in" spCountIn) (c_wrong_steps : Cl P w K mg base CX0 9 "wrong_steps" spWS) :
    Cl P w K mg base (L2.CX P w) 10 "count_wrong" (spCW CS CC) := by
  refine cl_of D (fun _ _ _ _ _ _ us hl => match us, hl with | [_, _, _, _], _ => rfl) sc_count_wrong (fun vs H Q E h => ?_) (fun fp cdv A outer s H vs Q E hr h => ?_)
  · obtain ⟨fa, ra, f, wy, wd, r, rfl, _⟩ := h
    rfl
  · obtain ⟨fa, ra, f, wy, wd, r, rfl, hf, bf, w1, w8, ha, br, kO, kS, kF⟩ := h
    refine ⟨_, (pss_cons (ps_expr (pe_cl c_check_fine hr (by decide) (passes_call (takes_of rfl rfl rfl rfl) (fun _ _ _ _ h => h)) (pa_cons (pv 0) (pa_cons (pv 3) pa_nil))))
      (pss_one (ps_ret (pe_cl c_count_in hr (by decide) pass0 (pa_cons (pe_cl c_wrong_steps hr (by decide) pass0 (pa_cons (pv 0) (pa_cons (pv 1) (pa_cons (pv 2) (pa_cons (pv 3) pa_nil))))) pa_nil))))), ?_⟩
    refine ⟨_, rfl, _, rfl, fa, ra, f, r, rfl, hf, bf, ha, br, fun so fi H1 s1 => ?_, kS, kF⟩
    refine ⟨_, rfl, _, rfl, _, rfl, _, rfl, fa, ra, f, wy, wd, r, rfl, s1 _ _ hf, bf, w1, w8, s1 _ _ ha, br, fun H2 p s2 hp => ?_⟩
    refine ⟨p, _, rfl, hp, steps_b br bf w1 w8, steps_len w1 w8, fun H3 s3 => ?_⟩
    rw [steps_count br bf w1 w8 so fi]
    exact kO so fi H3 ((s1.trans s2).trans s3)
theorem sc_wrong_at : FnScope ["form", "way", "word", "row", "index"] ["form", "way", "word", "row", "index"] (defScope s_wrong_at) := ⟨rfl, rfl, rfl, by decide +kernel, rfl, by decide +kernel, by decide +kernel⟩
theorem cl_wrong_at (D : DefAt K mg "wrong_at" s_wrong_at) (c_check_fine : Cl P w K mg base (L2.CX P w) 5 "check_fine" (spChkF CS CC)) (c_at_in : Cl P w K mg base (L2.CX P w) 8 "at_in" (spAtIn K CI)) (c_wrong_steps : Cl P w K mg base CX0 9 "wrong_steps" spWS) :
    Cl P w K mg base (L2.CX P w) 10 "wrong_at" (spWA K CS CC CI) := by
  refine cl_of D (fun _ _ _ _ _ _ us hl => match us, hl with | [_, _, _, _, _], _ => rfl) sc_wrong_at (fun vs H Q E h => ?_) (fun fp cdv A outer s H vs Q E hr h => ?_)
  · obtain ⟨fa, ra, f, wy, wd, r, x, b, rfl, _⟩ := h
    rfl
  · obtain ⟨fa, ra, f, wy, wd, r, x, b, rfl, hf, bf, w1, w8, ha, br, hw, hb, hbf, kO, kN, kS, kF⟩ := h
    refine ⟨_, (pss_cons (ps_expr (pe_cl c_check_fine hr (by decide) (passes_call (takes_of rfl rfl rfl rfl) (fun _ _ _ _ h => h)) (pa_cons (pv 0) (pa_cons (pv 3) pa_nil))))
      (pss_one (ps_ret (pe_cl c_at_in hr (by decide) (passes_call (takes_of rfl rfl rfl rfl) (fun _ _ _ _ h => h)) (pa_cons (pe_cl c_wrong_steps hr (by decide) pass0 (pa_cons (pv 0) (pa_cons (pv 1) (pa_cons (pv 2) (pa_cons (pv 3) pa_nil))))) (pa_cons (pv 4) pa_nil)))))), ?_⟩
    refine ⟨_, rfl, _, rfl, fa, ra, f, r, rfl, hf, bf, ha, br, fun so fi H1 s1 => ?_, kS, kF⟩
    refine ⟨_, rfl, _, rfl, _, rfl, _, rfl, fa, ra, f, wy, wd, r, rfl, s1 _ _ hf, bf, w1, w8, s1 _ _ ha, br, fun H2 p s2 hp => ?_⟩
    have s12 := s1.trans s2
    refine ⟨_, rfl, p, _, x, b, rfl, hp, steps_b br bf w1 w8, hw _ s12, hb, hbf, fun H3 k q y left s3 hq hl hx y0 y1 y2 y3 => ?_, fun no H3 d s3 hd => ?_⟩
    · have z := steps_at br bf w1 w8 so fi hq hl y0 y1 y2 y3
      refine kO so fi H3 _ y (s12.trans s3) ?_ z.2
      rw [hx]
      congr 1
      omega
    · refine kN so fi (fun i e => ?_) H3 d (s12.trans s3) hd
      rw [← steps_count br bf w1 w8 so fi]
      exact no i e
end
end K45
/-! ## E4 -/
namespace K45
open PySem PySem.Spec PyProof.Rows L2
/-! ### defs that are only called while no repr runs (so that a repr inside is not cut) -/
/-- no guard of a repr is on the stack -/
def NoRep (A : Around) : Prop := A.guards = some []
structure FnG (P : Program) (w : World) (K : PySem.W.Frag) (mg : Str → Option Value) (base : Heap) (CX : CXT) (k : Nat) (f : Addr) (fd : FuncData) (ps : List Str) (sp : Sp) : Prop where
  len : ∀ vs H Q E, sp vs H Q E → vs.length = ps.length
  run : ∀ (A : Around) (outer : List Env) (s : Shared) (H : Hp) (args : Args) (us : List Value) (vs : List V) (Q : VK) (E : XK), NoRep A → Room k A → Env0 P w K mg base A outer s H → BindsTo s fd args (ps.zip us) → Vals vs us → sp vs H Q E →
    codeAny (model P w) A (.call (.ref f) args) (CR CX outer P w H s Q E) s
theorem fnG_of {CX : CXT} {P : Program} {w : World} {K : PySem.W.Frag} {mg : Str → Option Value} {base : Heap} {k : Nat} {f : Addr} {name qual : Str} {params : Arguments} {body : List Stmt} {scope : Scope} {dV kV doc pm cdv ct oc : Value} {an od : Option Addr}
    {osl : Array (Option Value)} {N ps : List Str} {sp : Sp} (lk : K.lookup f = some ⟨oc, od, .func (PySem.W.fnOf name qual params body scope dV kV doc pm an cdv ct), osl⟩) (hcd : PySem.W.codeIn K cdv qual = true) (S : FnScope N ps scope)
    (len : ∀ vs H Q E, sp vs H Q E → vs.length = ps.length)
    (hbody : ∀ (A : Around) (outer : List Env) (s : Shared) (H : Hp) (vs : List V) (Q : VK) (E : XK), NoRep (A.deeper (envOfC qual scope s.heap.objs.size f cdv)) → Room k (A.deeper (envOfC qual scope s.heap.objs.size f cdv)) → sp vs H Q E →
      ∃ t, PSs (cxOf CX P w K mg base N qual scope f cdv A outer s H E) body t ∧ t { nx := fun _ H' => Q .non H', rt := Q } (start N vs) H) :
    FnG P w K mg base CX (k + 1) f (PySem.W.fnOf name qual params body scope dV kV doc pm an cdv ct) ps sp where
  len := len
  run := fun A outer s H args us vs Q E hg hr e0 hb r hsp => by
    have n := len _ _ _ _ hsp
    have keep : ∀ b o, base.get? b = some o → s.heap.get? b = some o := fun b o e => (e0.bs b o e).1
    have KX : K.In s.heap := e0.mod.kin.keeps keep
    refine codeAny_call_function hr.depth (KX _ _ lk) rfl S.co S.gen rfl (PySem.W.codeRec_of KX hcd) (hb _ _ _ _ (wpAny_newFunctionEnv_cells S.kind (fun y hy => ?_) fun env he s1 x => ?_))
    · obtain ⟨y1, y2⟩ := y
      rcases S.par y1 (List.of_mem_zip hy).1 with q | q
      · exact .inl q
      · exact .inr ⟨q, PySem.W.cellsFrom_some _ _ _ (.inl q)⟩
    · subst he
      obtain ⟨t, ht, hq⟩ := hbody A outer s H vs Q E hg (hr.deeper _) hsp
      have lim : s.heap.NoLimit := e0.mod.nolimit.keeps keep
      refine ⟨lim.keeps x.toInCall.keep, codeAny_func (wpAny_mono (ht.run [] s1 (start N vs) H _ (inv_start S hr.hd e0 n r x) hq) (fun fl s' hs => ?_) fun e s' hs => hs)⟩
      cases fl with
      | ret u =>
        obtain ⟨v, σ', H', J, rv, q⟩ := hs
        exact ⟨v, H', J.os, J.bare, J.base, J.hok, rv, q⟩
      | next =>
        obtain ⟨σ', H', J, q⟩ := hs
        exact ⟨V.non, H', J.os, J.bare, J.base, J.hok, rfl, q⟩
      | brk =>
        obtain ⟨_, _, _, q⟩ := hs
        exact False.elim q
      | cont =>
        obtain ⟨_, _, _, q⟩ := hs
        exact False.elim q
structure ClG (P : Program) (w : World) (K : PySem.W.Frag) (mg : Str → Option Value) (base : Heap) (CX : CXT) (k : Nat) (x : Str) (sp : Sp) : Prop where
  ex : ∃ (f : Addr) (fd : FuncData) (ps : List Str), FnG P w K mg base CX k f fd ps sp ∧ mg x = some (.ref f) ∧ PySem.W.keepIn K (.ref f) = true ∧ Binds K fd ps []
section
variable {P : Program} {w : World} {K : PySem.W.Frag} {mg : Str → Option Value} {base : Heap}
theorem clG_of {CX : CXT} {x : Str} {st : Stmt} {N ps : List Str} {k : Nat} {sp : Sp} (D : DefAt K mg x st) (B : BindOk x st ps) (S : FnScope N ps (defScope st)) (len : ∀ vs H Q E, sp vs H Q E → vs.length = ps.length)
    (hbody : ∀ (f : Addr) (cdv : Value) (A : Around) (outer : List Env) (s : Shared) (H : Hp) (vs : List V) (Q : VK) (E : XK), NoRep (A.deeper (envOfC x (defScope st) s.heap.objs.size f cdv)) → Room k (A.deeper (envOfC x (defScope st) s.heap.objs.size f cdv)) → sp vs H Q E →
      ∃ t, PSs (cxOf CX P w K mg base N x (defScope st) f cdv A outer s H E) (defBody st) t ∧ t { nx := fun _ H' => Q .non H', rt := Q } (start N vs) H) : ClG P w K mg base CX (k + 1) x sp := by
  obtain ⟨f, fd, F, hm⟩ := D.ex
  have hf : FnG P w K mg base CX (k + 1) f fd ps sp := by
    obtain ⟨oc, od, dV, kV, doc, pm, an, cdv, ct, osl, rfl, lk, hcd, _, _⟩ := F.ex
    exact fnG_of lk hcd S len fun A outer s H vs Q E hg hr hsp => hbody f cdv A outer s H vs Q E hg hr hsp
  exact ⟨f, fd, ps, hf, hm, F.kp, F.bindsN B⟩
end
section
variable {X : Cx} {k j : Nat} {x : Str} {sp : Sp} {CX : CXT} {E : XK} {p pos : Pos} {e : Expr} {es : List Expr} {t : TA}
theorem pe_clG (c : ClG X.prog X.w X.K X.mg X.base CX k x sp) (hg0 : NoRep X.A) (hr : Room j X.A) (hk : k ≤ j) (hx : Passes CX X E) (ha : PA X (e :: es) t) (hg : Gl X x := by rfl)
    (hdb : (x == ("__debug__" : Str)) = false := by decide) (he : starEach (e :: es) X.env = (false, eval e X.env) :: starEach es X.env := by rfl) (hpl : (backTo pos (starEach es X.env)).any (·.1) = false := by rfl) :
    PE X (.Call (.Name x p) (e :: es) [] pos) (tCall sp [] E t) := by
  obtain ⟨f, fd, ps, F, hm, kp, b⟩ := c.ex
  refine ⟨fun pins s σ H Q I h => ?_⟩
  refine wpAny_Call_Name_kw (ld_glob I hg hm ?_ hdb)
  refine PySem.W.callWith_K (h₀ := X.base) I.ok.mod.kin kp (thn (ha.run pos pins s σ H _ I h) fun us s1 ⟨vs, H1, I1, r, q⟩ => ⟨I1.kIn, ?_⟩) he hpl
  have q' : sp vs H1 Q E := by rw [← List.append_nil vs]; exact q
  have hl : us.length = ps.length := by rw [← r.length]; exact F.len _ _ _ _ q'
  have bb := b s1 us I1.kIn (by rw [List.append_nil]; exact hl)
  rw [List.append_nil] at bb
  refine wpAny_call (codeAny_mono (F.run X.A X.stack s1 H1 ⟨us, []⟩ us vs Q E hg0 (hr.mono hk) I1.env0 bb r q') fun r s' hq => ?_)
  cases r with
  | error e => exact hx pins σ H1 s1 e s' I1 hq
  | ok fl =>
    cases fl with
    | ret u => exact I1.after hq
    | next => exact False.elim hq
    | brk => exact False.elim hq
    | cont => exact False.elim hq
end
end K45
/-! ## X4 -/
namespace K45
open PySem PySem.Spec PyProof.Rows L2
/-! ### repr of a number, a text, None, a truth, a flat list or tuple of such, an empty dict -/
inductive LeafD : V → PyData → Prop
  | non : LeafD .non .none
  | bl (b : Bool) : LeafD (.bl b) (.bool b)
  | int {i : Int} (h : i.natAbs.log2 < 1920) : LeafD (.int i) (.int i)
  | str (x : Str) : LeafD (.str x) (.str x)
inductive ShowD (H : Hp) : V → PyData → Prop
  | leaf {x : V} {d : PyData} (h : LeafD x d) : ShowD H x d
  | lst {a : Addr} {xs : List V} {ds : List PyData} (h : H a = some (.lst xs)) (p : Paired LeafD xs ds) : ShowD H (.ref a) (.list ds)
  | tup {a : Addr} {xs : List V} {ds : List PyData} (h : H a = some (.tup xs)) (p : Paired LeafD xs ds) : ShowD H (.ref a) (.tuple ds)
  | dct {a : Addr} (h : H a = some (.dK [])) : ShowD H (.ref a) (.dict [])
theorem LeafD.reads {x : V} {d : PyData} {u : Value} (h : Heap) (l : LeafD x d) (r : RelV x u) : Reads h u d [] ∧ d.showable = true ∧ d.hasDict = false ∧ d.depth = 0 := by
  cases l with
  | non => cases r; exact ⟨.none, rfl, rfl, rfl⟩
  | bl b => cases r; exact ⟨.bool b, rfl, rfl, rfl⟩
  | int hi => obtain ⟨t, rfl⟩ := r; exact ⟨.int _ t, decide_eq_true hi, rfl, rfl⟩
  | str y => obtain ⟨t, rfl⟩ := r; exact ⟨.str _ t, rfl, rfl, rfl⟩
theorem leaves_read (h : Heap) : ∀ {xs : List V} {ds : List PyData} {us : List Value}, Paired LeafD xs ds → Vals xs us → ReadsAll h us ds [] ∧ PyData.showableAll ds = true ∧ PyData.hasDictAll ds = false ∧ PyData.depthAll ds = 0
  | _, _, _, .nil, .nil => ⟨.nil, rfl, rfl, rfl⟩
  | _, _, _, .cons l p, .cons r q => by
    obtain ⟨a1, a2, a3, a4⟩ := LeafD.reads h l r
    obtain ⟨b1, b2, b3, b4⟩ := leaves_read h p q
    refine ⟨ReadsAll.cons a1 b1, ?_, ?_, ?_⟩
    · simp only [PyData.showableAll, a2, b2]; rfl
    · simp only [PyData.hasDictAll, a3, b3]; rfl
    · simp only [PyData.depthAll, a4, b4]; rfl
def rRepr : List V → Hp → VK → Prop := fun xs H Q => ∃ (x : V) (d : PyData), xs = [x] ∧ ShowD H x d ∧ d.shown.length ≤ sizeLine ∧ Q (.str d.shown) H
theorem call_repr {X : Cx} (hg : NoRep X.A) (hu : X.A.units + 10 < cLine) : CallR X (.builtin "repr") rRepr := by
  intro pins s σ H xs us Q I r h
  obtain ⟨x, d, rfl, sh, hsz, q⟩ := h
  cases r with
  | cons rx rr =>
    cases rr
    rename_i u
    have fin : ∀ {h' : Heap} {t tk : Nat}, (∀ b o, s.heap.get? b = some o → h'.get? b = some o) → EP X pins σ Q (.str d.shown t) { s with heap := h', toks := tk } := fun {h' t tk} k => ⟨.str d.shown, H, I.kept (t' := tk) k, ⟨_, rfl⟩, q⟩
    have obj : ∀ {a : Addr} {as : List Addr}, u = .ref a → Reads s.heap (.ref a) d as → d.showable = true → (d.hasDict = true → sysModules ∉ as) → d.depth ≤ 1 → wpAny (model X.prog X.w) X.A (call (.builtin "repr") [u]) (EP X pins σ Q) X.xe s := by
      rintro a as rfl rd hs hd hp
      exact repr_of_reads' rd hs hd hg (by omega) (fun _ _ e => e) (fun h' u tk k => fin k) hsz
    cases sh with
    | leaf l =>
      cases l with
      | non => cases rx; exact P.repr_of_none (fin (fun _ _ e => e))
      | bl b =>
        cases rx
        refine P.repr_of_bool ?_
        cases b with
        | true => exact fin (fun _ _ e => e)
        | false => exact fin (fun _ _ e => e)
      | int hi => obtain ⟨t, rfl⟩ := rx; exact P.repr_of_int hi (fin (fun _ _ e => e))
      | str y => obtain ⟨t, rfl⟩ := rx; exact P.repr_of_str (fin (fun _ _ e => e)) hsz
    | lst e p =>
      obtain ⟨_, its, n, rv, ho⟩ := (show ObjOk X.prog X.w H s.heap _ (.lst _) from I.hok _ _ e)
      obtain ⟨b1, b2, b3, b4⟩ := leaves_read s.heap p rv
      exact obj rx (.list ho rfl rfl (by simpa using b1)) (by simpa only [PyData.showable] using b2) (fun z => by simp only [PyData.hasDict, b3] at z; cases z) (by simp only [PyData.depth, b4]; omega)
    | tup e p =>
      obtain ⟨_, its, rv, ho⟩ := (show ObjOk X.prog X.w H s.heap _ (.tup _) from I.hok _ _ e)
      obtain ⟨b1, b2, b3, b4⟩ := leaves_read s.heap p rv
      obtain ⟨o, h1, h2, n, h3⟩ := ho
      cases rx
      have rd : Reads s.heap (.ref _) (.tuple _) [] := .tuple h1 h2 h3 (by simpa using b1)
      exact repr_of_reads' rd (by simpa only [PyData.showable] using b2) (fun z => by simp only [PyData.hasDict, b3] at z; cases z) hg (by simp only [PyData.depth, b4]; omega) (fun _ _ e => e) (fun h' u tk k => fin k) hsz
    | dct e =>
      obtain ⟨_, hne, vs, kv, o, es, ep, h1, h2, h3, h4, h5, h6⟩ := (show ObjOk X.prog X.w H s.heap _ (.dK _) from I.hok _ _ e)
      cases kv
      have e0 : es.toList = [] := by
        cases hh : es.toList with
        | nil => rfl
        | cons e l => rw [hh] at h5; cases h5
      have rd : Reads s.heap (.ref _) (.dict []) (_ :: [] ++ []) := .dict h1 h2.1 h3 (by rw [e0]; exact .nil) (by rw [e0]; exact .nil)
      refine obj rx rd rfl (fun _ z => ?_) (by show 1 ≤ 1; exact Nat.le_refl _)
      simp only [List.cons_append, List.nil_append, List.mem_singleton] at z
      rw [z] at hne
      simp at hne
end K45
/-! ## E5 -/
namespace K45
open PySem PySem.Spec PyProof.Rows L2
/-! ### try with several clauses 'except X as n' (one name n) -/
abbrev Suite : Type := Addr → Value → Option Addr → TS
/-- the ends of a suite whose name, in slot i, goes behind it -/
def endAs (i : Nat) (D : Ends) : Ends := { nx := fun σ' H' => D.nx (σ'.set i none) H', rt := D.rt, bk := fun σ' H' => D.bk (σ'.set i none) H', ct := fun σ' H' => D.ct (σ'.set i none) H' }
def wMas (K : PySem.W.Frag) (i : Nat) (Wout : WX) (D : Ends) : List (Value × Suite) → WX
  | [] => Wout
  | (c, ts) :: r => fun cls d σ H => ∃ b, PySem.W.exmOne K cls c = some b ∧ (b = true → ∀ a, H a = none → ts a cls d (endAs i D) (σ.set i (some (.ref a))) H) ∧ (b = false → wMas K i Wout D r cls d σ H)
inductive HdsAs (X : Cx) (n : Str) : List ExceptHandler → List (Value × Suite) → Prop
  | nil : HdsAs X n [] []
  | cons {x : Str} {c : Value} {ts : Suite} {b₀ : Stmt} {suite : List Stmt} {np pos' : Pos} {hds : List ExceptHandler} {l : List (Value × Suite)} (hc : Names X x c)
      (hsu : ∀ (a : Addr) (oe : Obj) (cls : Value) (d : Option Addr) (pn : List (Addr × Obj)), Zc cls d oe → (∃ vs, oe.data = .fields vs) → PSs (X.suite a ((a, oe) :: pn)) (b₀ :: suite) (ts a cls d)) (r : HdsAs X n hds l) :
      HdsAs X n (.ExceptHandler (some (.Name x np)) (some n) (b₀ :: suite) pos' :: hds) ((c, ts) :: l)
section
variable {X : Cx} {body : List Stmt} {h₀ : ExceptHandler} {hds : List ExceptHandler} {l : List (Value × Suite)} {pos : Pos} {tb : WX → TS} {Wout : WX} {n : Str} {i : Nat}
theorem not_frame {h : Heap} {B : Heap} {a : Addr} {o : Obj} {vs : Array Value} {fr : List Env} (ff : h.FunFrames B fr) (e : h.get? a = some o) (dd : o.data = .fields vs) : a ∉ frs fr := fun hm => by
  obtain ⟨_, o', e', hnf⟩ := ff.mem hm
  rw [e] at e'
  cases e'
  exact hnf _ dd
theorem ps_try_mas (hs : X.stack = X.env :: X.outer) (hf : X.env.frame = some X.env.locals) (hN : X.N.Nodup) (hi : X.N[i]? = some n) (hln : X.env.kindOf n = some .local) (tk : Takes X Wout)
    (hb : ∀ (W : WX) (pn : List (Addr × Obj)) (xe : Value → Shared → Prop), Takes (X.tr pn xe) W → PassesOwn (model X.prog X.w) X.A X.env xe → PSs (X.tr pn xe) body (tb W))
    (hh : HdsAs X n (h₀ :: hds) l) : PS X (.Try body (h₀ :: hds) [] [] pos) (fun D σ H => tb (wMas X.K i Wout D l) D σ H) := by
  refine ⟨fun pins s σ H D I h => ?_⟩
  have ok := I.ok
  have hfr : X.A.frames = some (X.env :: X.outer) := by rw [ok.frames, hs]
  have hloc : Loc X.env.scope n := .inl hln
  refine wpAny_Try_except ?_
  refine wpAny_mono ((hb (wMas X.K i Wout D l) (X.pn ++ pins) (fun e s₁ => wpAny (model X.prog X.w) X.A (noteFrame e X.env) (fun _ s₂ => wpAny (model X.prog X.w) X.A (setFlight e none) (fun _ s₃ =>
    wpAny (model X.prog X.w) X.A (handleBy e X.env (h₀ :: hds)) (SP X pins D) X.xe s₃) X.xe s₂) X.xe s₁) (fun u s' xx => ?_) PassesOwn.looking).run [] s σ H D (I.toTry _) h) (fun f s1 hsp => ?_) (fun e s1 he => he)
  · obtain ⟨a, B, sI, pins', σ', H', cls, d, rfl, J', nb, up, sky, na, os, ag, w⟩ := xx
    have J : L2.Inv X pins σ' H' sI := J'.ofTry ok
    have sky' : Sky B (X.env :: X.outer) a (Zc cls d) X.env.locals s'.heap := by rw [← hs]; exact sky
    show wpAny (model X.prog X.w) X.A (noteFrame (.ref a) X.env) _ _ _
    refine Sky.land Zc.steady hfr hf sky' fun h3 fl3 up3 => ?_
    have J3 : L2.Inv X pins σ' H' { s' with heap := h3 } := J.landed nb fl3.1 (up.trans up3) os ag
    obtain ⟨oe3, vs3, he3, hz3, hd3⟩ := fl3.there
    have nfr := not_frame fl3.2.2.1 he3 hd3
    have nL : a ≠ X.env.locals := fun z => nfr (List.mem_filterMap.mpr ⟨X.env, List.mem_cons_self, by rw [hf, z]⟩)
    have nF : a ∉ X.fs := fun hm => by
      obtain ⟨e, he, q⟩ := List.mem_filterMap.mp hm
      exact nfr (List.mem_filterMap.mpr ⟨e, List.mem_cons_of_mem _ he, q⟩)
    have S3 := J3.suite he3 hd3 na nL nF
    have go : ∀ {hds' : List ExceptHandler} {l' : List (Value × Suite)}, HdsAs X n hds' l' → wMas X.K i Wout D l' cls d σ' H' →
        wpAny (model X.prog X.w) X.A (handleBy (.ref a) X.env hds') (SP X pins D) X.xe { s' with heap := h3 } := by
      intro hds' l' hk
      induction hk with
      | nil =>
        intro w
        refine wpAny_handleBy_nil ?_
        obtain ⟨k1, k2, k3, oe, vs, T, oT, ts', he, hz, hd, h1, hr⟩ := id fl3
        unfold PySem.passOn
        refine wpAny_bind (wpAny_field he hd h1 ?_)
        rw [if_neg (show ¬ ((Value.ref T == Value.none) = true) from by simp)]
        have fin : wpAny (model X.prog X.w) X.A (setFlight (.ref a) X.env.frame) (fun _ s4 => wpAny (model X.prog X.w) X.A (throw (.ref a) : Sem Flow) (SP X pins D) X.xe s4) X.xe { s' with heap := h3 } := by
          rw [hf]
          exact HandSPX.setFlight_upZ fl3 fun h4 hh4 up4 => wpAny_throw (tk _ _ ⟨a, B, sI, pins, σ', H', cls, d, rfl, J, nb, (up.trans up3).trans up4, .inr (.inr (by rw [hs]; exact hh4)), na, os, ag, w⟩)
        first
          | exact wpAny_bind (wpAny_pure (wpAny_bind fin))
          | exact wpAny_bind fin
      | @cons x c ts b₀ suite np pos' hds2 l2 hc hsu r ih =>
        intro w
        obtain ⟨b, hb1, hyes, hno⟩ := w
        refine wpAny_handleBy_cons (codeAny_handlers_test ?_) (by intro q; cases q)
        have LT : PySem.W.Looks (model X.prog X.w) h3 (typeOf (.ref a)) cls := fun A Q E s k q => wpAny_typeOf_ref (k _ _ he3) (by rw [hz3.1]; exact q)
        have LM := PySem.W.exm_one (M := model X.prog X.w) (J3.kIn) LT hb1
        have test : ∀ {Q : Value → Shared → Prop} {E : Value → Shared → Prop}, Q c { s' with heap := h3 } → wpAny (model X.prog X.w) (X.A.mark (some (.ref a))) (eval (.Name x np) X.env) Q E { s' with heap := h3 } := fun {Q E} q => by
          obtain ⟨hg, hdbg, hm | ⟨hm, hv, hnn⟩⟩ := hc
          · exact ld_glob (X := X.suite a ((a, oe3) :: (X.pn ++ pins))) S3 hg hm q hdbg
          · exact ld_blt (X := X.suite a ((a, oe3) :: (X.pn ++ pins))) S3 hg hm hv q hnn hdbg
        refine test (LM.here ?_)
        cases b with
        | true =>
          refine codeAny_handlers_suite_as ?_
          refine HandSPX.lands_againZ fl3 fun h4 fl4 up4 => ?_
          have J4 : L2.Inv X pins σ' H' { s' with heap := h4 } := J.landed nb fl4.1 ((up.trans up3).trans up4) os ag
          obtain ⟨oe4, vs4, he4, hz4, hd4⟩ := fl4.there
          have S4 := J4.suite he4 hd4 na nL nF
          refine store_ok (X := X.suite a ((a, oe4) :: (X.pn ++ pins))) (v := .ref a) S4 hN hi hloc rfl (fun s5 S5 => ?_) (.inr hln)
          refine wpAny_mono ((hsu a oe4 cls d (X.pn ++ pins) hz4 ⟨_, hd4⟩).run [] s5 _ H' _ S5 (hyes rfl a na)) (fun f s6 hsp => ?_) (fun _ _ z => False.elim z)
          have end_ : ∀ {σ6 : L2.St} {H6 : Hp} {Q : Shared → Prop}, L2.Inv (X.suite a ((a, oe4) :: (X.pn ++ pins))) [] σ6 H6 s6 → (∀ s7, L2.Inv X pins (σ6.set i none) H6 s7 → Q s7) →
              wpAny (model X.prog X.w) X.A (do bindName X.env n .none; unbindBehindTheSuite X.env n pos') (fun _ s7 => Q s7) X.xe s6 := fun {σ6 H6 Q} S6 hq => gone_ok (S6.unsuite ok) hN hi hln hq
          cases f with
          | next =>
            obtain ⟨σ6, H6, S6, q6⟩ := hsp
            exact end_ S6 fun s7 J7 => ⟨_, _, J7, q6⟩
          | brk =>
            obtain ⟨σ6, H6, S6, q6⟩ := hsp
            exact end_ S6 fun s7 J7 => ⟨_, _, J7, q6⟩
          | cont =>
            obtain ⟨σ6, H6, S6, q6⟩ := hsp
            exact end_ S6 fun s7 J7 => ⟨_, _, J7, q6⟩
          | ret u =>
            obtain ⟨v6, σ6, H6, S6, r6, q6⟩ := hsp
            exact end_ S6 fun s7 J7 => ⟨_, _, _, J7, r6, q6⟩
        | false =>
          show wpAny _ X.A (handleBy (.ref a) X.env hds2) _ _ _
          exact ih (hno rfl)
    exact go hh w
  · cases f with
    | next =>
      obtain ⟨σ', H', J', q⟩ := hsp
      exact wpAny_execs_nil ⟨σ', H', J'.ofTry ok, q⟩
    | brk =>
      obtain ⟨σ', H', J', q⟩ := hsp
      exact ⟨σ', H', J'.ofTry ok, q⟩
    | cont =>
      obtain ⟨σ', H', J', q⟩ := hsp
      exact ⟨σ', H', J'.ofTry ok, q⟩
    | ret u =>
      obtain ⟨v, σ', H', J', r, q⟩ := hsp
      exact ⟨v, σ', H', J'.ofTry ok, r, q⟩
end
end K45
/-! ## W15 -/
namespace K45
open PySem PySem.Spec PyProof.Rows L2
/-! ### isinstance(e, c), e the exception that the suite holds, whatever its class -/
def rIsX (K : PySem.W.Frag) (a : Addr) (cls : Value) (d : Option Addr) (C : Addr) : List V → Hp → VK → Prop := fun xs H Q => cls = .ref C ∧ ∃ dd, d = some dd ∧ (∃ fs, H dd = some (.xd fs)) ∧ rIsE K C a xs H Q
theorem call_isXc {X : Cx} {a C : Addr} {cls : Value} {d : Option Addr} {oe : Obj} {pn : List (Addr × Obj)} (E : ExcC X.K C) (hz : Zc cls d oe) (hf : ∃ vs, oe.data = .fields vs) : CallR (X.suite a ((a, oe) :: pn)) (.builtin "isinstance") (rIsX X.K a cls d C) := by
  intro pins s σ H xs us Q I r h
  obtain ⟨rfl, dd, rfl, hx, hi⟩ := h
  exact call_isX (H' := H) E hz hf pins s σ H xs us Q I r ⟨hx, hi⟩
theorem ShowD.same {H H' : Hp} {x : V} {d : PyData} (s : Same H H') (h : ShowD H x d) : ShowD H' x d := by
  cases h with
  | leaf l => exact .leaf l
  | lst e p => exact .lst (s _ _ e) p
  | tup e p => exact .tup (s _ _ e) p
  | dct e => exact .dct (s _ _ e)
/-- what the written part says of the three error classes, at CS, CC, CI, and of their base at CN -/
structure ErrF (K : PySem.W.Frag) (mg : Str → Option Value) (CS CC CI CN : Addr) : Prop where
  gS : mg "NotSound" = some (.ref CS)
  gC : mg "Coarse" = some (.ref CC)
  gI : mg "NoIndex" = some (.ref CI)
  gN : mg "NumberError" = some (.ref CN)
  gis : mg "isinstance" = none
  grp : mg "repr" = none
  gle : mg "LookupError" = none
  gve : mg "ValueError" = none
  mSS : PySem.W.exmOne K (.ref CS) (.ref CS) = some true
  mCS : PySem.W.exmOne K (.ref CC) (.ref CS) = some false
  mCC : PySem.W.exmOne K (.ref CC) (.ref CC) = some true
  mIS : PySem.W.exmOne K (.ref CI) (.ref CS) = some false
  mIC : PySem.W.exmOne K (.ref CI) (.ref CC) = some false
  mII : PySem.W.exmOne K (.ref CI) (.ref CI) = some true
  eS : ExcC K CS
  eC : ExcC K CC
  eI : ExcC K CI
  fS : XfC K CS
  fC : XfC K CC
  fI : XfC K CI
  nS : PySem.W.findIn K (.ref CS) "power" = some none
  nC : PySem.W.findIn K (.ref CC) "power" = some none
  nI : PySem.W.findIn K (.ref CI) "index" = some none
  iS : PySem.W.kitOne K (.ref CS) (.ref CN) = some true
  iC : PySem.W.kitOne K (.ref CC) (.ref CN) = some true
  iL : PySem.W.kitOne K (.ref CI) (.type "LookupError") = some true
  iV : PySem.W.kitOne K (.ref CI) (.type "ValueError") = some false
def spLCount : Sp := fun vs H Q _ => ∃ (fa ra : Addr) (f : Fo) (wy : Way) (word : Nat) (r : Row), vs = [.ref fa, .str (wayS wy), .int (word : Int), .ref ra] ∧ FoAt H fa f ∧ FoB f ∧ 1 ≤ word ∧ word ≤ 8 ∧ RowAt H ra r ∧ RowB r ∧
  (r.Sound → r.Fine f → ∀ H', Same H H' → Q (.int ((wrongs r f wy word).length : Int)) H') ∧
  (¬ r.Sound → ∀ H' p, Same H H' → H' p = some (.lst [.str "NotSound", .int r.P, .bl true]) → Q (.ref p) H') ∧ (r.Sound → ¬ r.Fine f → ∀ H' p, Same H H' → H' p = some (.lst [.str "Coarse", .int r.P, .bl true]) → Q (.ref p) H')
def spLAt (K : PySem.W.Frag) : Sp := fun vs H Q _ => ∃ (fa ra : Addr) (f : Fo) (wy : Way) (word : Nat) (r : Row) (x : V) (b : Bool) (d : PyData), vs = [.ref fa, .str (wayS wy), .int (word : Int), .ref ra, x] ∧ FoAt H fa f ∧ FoB f ∧ 1 ≤ word ∧ word ≤ 8 ∧ RowAt H ra r ∧ RowB r ∧
  (∀ H', Same H H' → WhV K H' x b) ∧ (b = true → ∃ i, x = .int i) ∧ (b = false → ∀ i, x ≠ .int i) ∧ ShowD H x d ∧ d.shown.length ≤ sizeLine ∧
  (r.Sound → r.Fine f → ∀ H' (i : Nat) y, Same H H' → x = .int (i : Int) → (wrongs r f wy word)[i]? = some y → Q (.int y) H') ∧
  (r.Sound → r.Fine f → NoWr (wrongs r f wy word) x → ∀ H' p, Same H H' → H' p = some (.lst [.str "NoIndex", .str d.shown, .bl true, .bl false]) → Q (.ref p) H') ∧
  (¬ r.Sound → ∀ H' p, Same H H' → H' p = some (.lst [.str "NotSound", .int r.P]) → Q (.ref p) H') ∧ (r.Sound → ¬ r.Fine f → ∀ H' p, Same H H' → H' p = some (.lst [.str "Coarse", .int r.P]) → Q (.ref p) H')
theorem look1 (f : Str) (v : V) : List.lookup f [(f, v)] = some v := by simp [List.lookup]
section
variable {P : Program} {w : World} {K : PySem.W.Frag} {mg : Str → Option Value} {base : Heap} {CS CC CI CN : Addr}
theorem sc_law_count : FnScope ["_law_form_here", "_law_way", "_law_word", "_law_row_here", "error"] ["_law_form_here", "_law_way", "_law_word", "_law_row_here"] (defScope s_law_count) := ⟨rfl, rfl, rfl, by decide +kernel, rfl, by decide +kernel, by decide +kernel⟩
/-- [nm, error.power, isinstance(error, NumberError)], error in slot i -/
def tEP (K : PySem.W.Frag) (CN C : Addr) (nm : Str) (i : Nat) : Suite := fun a cls d => tRet (tLst (tCons (tC (.str nm)) (tCons (tXf a cls d C "power" (tVar i)) (tCons (tCB (rIsX K a cls d C) (tCons (tVar i) (tCons (tC (.ref CN)) tNil))) tNil))))
theorem cl_law_count (D : DefAt K mg "_law_count" s_law_count) (EF : ErrF K mg CS CC CI CN) (c_count_wrong : Cl P w K mg base (L2.CX P w) 10 "count_wrong" (spCW CS CC)) : Cl P w K mg base CX0 11 "_law_count" spLCount := by
  refine cl_of D (fun _ _ _ _ _ _ us hl => match us, hl with | [_, _, _, _], _ => rfl) sc_law_count (fun vs H Q E h => ?_) (fun fp cdv A outer s H vs Q E hr h => ?_)
  · obtain ⟨fa, ra, f, wy, wd, r, rfl, _⟩ := h
    rfl
  · obtain ⟨fa, ra, f, wy, wd, r, rfl, hf, bf, w1, w8, ha, br, kO, kS, kF⟩ := h
    obtain ⟨fw, fdw, psw, F, hm, kp, bi⟩ := c_count_wrong.ex
    refine ⟨_, PSs.nox (pss_one (ps_try_mas (i := 4) (n := "error") (tb := fun W => tRet (tCallS (spCW CS CC) (WE W) (tCons (tVar 0) (tCons (tVar 1) (tCons (tVar 2) (tCons (tVar 3) tNil))))))
      (l := [(.ref CS, tEP K CN CS "NotSound" 4), (.ref CC, tEP K CN CC "Coarse" 4)]) rfl rfl sc_law_count.nd rfl rfl takes_none5
      (fun W pn xe tk _ => pss_one (ps_ret (by exact (pe_callS F hr rfl hm kp bi (fun σ => passAt tk σ) (by exact (pa_cons (pv 0) (pa_cons (pv 1) (pa_cons (pv 2) (pa_cons (pv 3) pa_nil)))))))))
      (.cons ⟨rfl, by decide, .inl EF.gS⟩ (fun a oe cls d pn hz hf => pss_one (ps_ret (pe_lst (pa_cons pe_str (pa_cons (pe_xf EF.fS EF.nS hz hf (pv 4)) (pa_cons (pe_callB (call_isXc EF.eS hz hf) (by rfl) EF.gis (by decide +kernel) (pa_cons (pv 4) (pa_cons (pe_glob (v := .ref CN) (by rfl) EF.gN rfl) pa_nil))) pa_nil))))))
      (.cons ⟨rfl, by decide, .inl EF.gC⟩ (fun a oe cls d pn hz hf => pss_one (ps_ret (pe_lst (pa_cons pe_str (pa_cons (pe_xf EF.fC EF.nC hz hf (pv 4)) (pa_cons (pe_callB (call_isXc EF.eC hz hf) (by rfl) EF.gis (by decide +kernel) (pa_cons (pv 4) (pa_cons (pe_glob (v := .ref CN) (by rfl) EF.gN rfl) pa_nil))) pa_nil)))))) .nil)))), ?_⟩
    refine ⟨_, rfl, _, rfl, _, rfl, _, rfl, fa, ra, f, wy, wd, r, rfl, hf, bf, w1, w8, ha, br, kO, fun ns H1 d s1 hd => ?_, fun so nf H1 d s1 hd => ?_⟩
    · refine ⟨true, EF.mSS, fun _ a0 ha0 => ?_, fun q => Bool.noConfusion q⟩
      refine ⟨_, rfl, rfl, rfl, d, _, _, rfl, upd_same, look1 _ _, ?_⟩
      refine ⟨_, rfl, rfl, d, rfl, ⟨_, upd_same⟩, .ref CN, .ref CN, true, rfl, (fun u hu => hu), EF.iS, ?_⟩
      refine ⟨(by show 3 ≤ sizeLine; decide), fun p hp => kS ns _ p ?_ upd_same⟩
      exact (s1.trans (same_of_upd hd)).trans (same_of_upd hp)
    · refine ⟨false, EF.mCS, (fun q => Bool.noConfusion q), fun _ => ?_⟩
      refine ⟨true, EF.mCC, fun _ a0 ha0 => ?_, fun q => Bool.noConfusion q⟩
      refine ⟨_, rfl, rfl, rfl, d, _, _, rfl, upd_same, look1 _ _, ?_⟩
      refine ⟨_, rfl, rfl, d, rfl, ⟨_, upd_same⟩, .ref CN, .ref CN, true, rfl, (fun u hu => hu), EF.iC, ?_⟩
      refine ⟨(by show 3 ≤ sizeLine; decide), fun p hp => kF so nf _ p ?_ upd_same⟩
      exact (s1.trans (same_of_upd hd)).trans (same_of_upd hp)
theorem sc_law_at : FnScope ["_law_form_here", "_law_way", "_law_word", "_law_row_here", "_law_index", "error"] ["_law_form_here", "_law_way", "_law_word", "_law_row_here", "_law_index"] (defScope s_law_at) := ⟨rfl, rfl, rfl, by decide +kernel, rfl, by decide +kernel, by decide +kernel⟩
/-- [nm, error.power] -/
def tEQ (C : Addr) (nm : Str) (i : Nat) : Suite := fun a cls d => tRet (tLst (tCons (tC (.str nm)) (tCons (tXf a cls d C "power" (tVar i)) tNil)))
/-- ['NoIndex', repr(error.index), isinstance(error, LookupError), isinstance(error, ValueError)] -/
def tEI (K : PySem.W.Frag) (C : Addr) (i : Nat) : Suite := fun a cls d => tRet (tLst (tCons (tC (.str "NoIndex")) (tCons (tCB rRepr (tCons (tXf a cls d C "index" (tVar i)) tNil))
  (tCons (tCB (rIsX K a cls d C) (tCons (tVar i) (tCons (tC (.ty "LookupError")) tNil))) (tCons (tCB (rIsX K a cls d C) (tCons (tVar i) (tCons (tC (.ty "ValueError")) tNil))) tNil)))))
theorem cl_law_at (D : DefAt K mg "_law_at" s_law_at) (EF : ErrF K mg CS CC CI CN) (c_wrong_at : Cl P w K mg base (L2.CX P w) 10 "wrong_at" (spWA K CS CC CI)) : ClG P w K mg base CX0 11 "_law_at" (spLAt K) := by
  refine clG_of D (fun _ _ _ _ _ _ us hl => match us, hl with | [_, _, _, _, _], _ => rfl) sc_law_at (fun vs H Q E h => ?_) (fun fp cdv A outer s H vs Q E hg hr h => ?_)
  · obtain ⟨fa, ra, f, wy, wd, r, x, b, d, rfl, _⟩ := h
    rfl
  · obtain ⟨fa, ra, f, wy, wd, r, x, b, d, rfl, hf, bf, w1, w8, ha, br, hw, hb, hbf, sh, hsz, kO, kN, kS, kF⟩ := h
    obtain ⟨fw, fdw, psw, F, hm, kp, bi⟩ := c_wrong_at.ex
    refine ⟨_, PSs.nox (pss_one (ps_try_mas (i := 5) (n := "error") (tb := fun W => tRet (tCallS (spWA K CS CC CI) (WE W) (tCons (tVar 0) (tCons (tVar 1) (tCons (tVar 2) (tCons (tVar 3) (tCons (tVar 4) tNil)))))))
      (l := [(.ref CS, tEQ CS "NotSound" 5), (.ref CC, tEQ CC "Coarse" 5), (.ref CI, tEI K CI 5)]) rfl rfl sc_law_at.nd rfl rfl takes_none5
      (fun W pn xe tk _ => pss_one (ps_ret (by exact (pe_callS F hr rfl hm kp bi (fun σ => passAt tk σ) (by exact (pa_cons (pv 0) (pa_cons (pv 1) (pa_cons (pv 2) (pa_cons (pv 3) (pa_cons (pv 4) pa_nil))))))))))
      (.cons ⟨rfl, by decide, .inl EF.gS⟩ (fun a oe cls d pn hz hf => pss_one (ps_ret (pe_lst (pa_cons pe_str (pa_cons (pe_xf EF.fS EF.nS hz hf (pv 5)) pa_nil)))))
      (.cons ⟨rfl, by decide, .inl EF.gC⟩ (fun a oe cls d pn hz hf => pss_one (ps_ret (pe_lst (pa_cons pe_str (pa_cons (pe_xf EF.fC EF.nC hz hf (pv 5)) pa_nil)))))
      (.cons ⟨rfl, by decide, .inl EF.gI⟩ (fun a oe cls d pn hz hf => pss_one (ps_ret (pe_lst (pa_cons pe_str (pa_cons (pe_callB (call_repr hg (show (A.deeper (envOfC "_law_at" (defScope s_law_at) s.heap.objs.size fp cdv)).units + 10 < cLine by have := hr.un; omega)) (by rfl) EF.grp (by decide +kernel) (pa_cons (pe_xf EF.fI EF.nI hz hf (pv 5)) pa_nil))
        (pa_cons (pe_callB (call_isXc EF.eI hz hf) (by rfl) EF.gis (by decide +kernel) (pa_cons (pv 5) (pa_cons (pe_bltn (v := .ty "LookupError") (by rfl) EF.gle (by decide +kernel) rfl) pa_nil)))
        (pa_cons (pe_callB (call_isXc EF.eI hz hf) (by rfl) EF.gis (by decide +kernel) (pa_cons (pv 5) (pa_cons (pe_bltn (v := .ty "ValueError") (by rfl) EF.gve (by decide +kernel) rfl) pa_nil))) pa_nil))))))) .nil))))), ?_⟩
    refine ⟨_, rfl, _, rfl, _, rfl, _, rfl, _, rfl, fa, ra, f, wy, wd, r, x, b, rfl, hf, bf, w1, w8, ha, br, hw, hb, hbf, kO, fun so fi no H1 d1 s1 hd => ?_, fun ns H1 d1 s1 hd => ?_, fun so nf H1 d1 s1 hd => ?_⟩
    · refine ⟨false, EF.mIS, (fun q => Bool.noConfusion q), fun _ => ?_⟩
      refine ⟨false, EF.mIC, (fun q => Bool.noConfusion q), fun _ => ?_⟩
      refine ⟨true, EF.mII, fun _ a0 ha0 => ?_, fun q => Bool.noConfusion q⟩
      have s2 : Same H (upd H1 d1 (xdO "index" x)) := s1.trans (same_of_upd hd)
      refine ⟨_, rfl, rfl, rfl, d1, _, _, rfl, upd_same, look1 _ _, ?_⟩
      refine ⟨x, d, rfl, sh.same s2, hsz, ?_⟩
      refine ⟨_, rfl, rfl, d1, rfl, ⟨_, upd_same⟩, .ty "LookupError", _, true, rfl, (fun u hu => hu), EF.iL, ?_⟩
      refine ⟨_, rfl, rfl, d1, rfl, ⟨_, upd_same⟩, .ty "ValueError", _, false, rfl, (fun u hu => hu), EF.iV, ?_⟩
      exact ⟨(by show 4 ≤ sizeLine; decide), fun p hp => kN so fi no _ p (s2.trans (same_of_upd hp)) upd_same⟩
    · refine ⟨true, EF.mSS, fun _ a0 ha0 => ?_, fun q => Bool.noConfusion q⟩
      refine ⟨_, rfl, rfl, rfl, d1, _, _, rfl, upd_same, look1 _ _, ?_⟩
      exact ⟨(by show 2 ≤ sizeLine; decide), fun p hp => kS ns _ p ((s1.trans (same_of_upd hd)).trans (same_of_upd hp)) upd_same⟩
    · refine ⟨false, EF.mCS, (fun q => Bool.noConfusion q), fun _ => ?_⟩
      refine ⟨true, EF.mCC, fun _ a0 ha0 => ?_, fun q => Bool.noConfusion q⟩
      refine ⟨_, rfl, rfl, rfl, d1, _, _, rfl, upd_same, look1 _ _, ?_⟩
      exact ⟨(by show 2 ≤ sizeLine; decide), fun p hp => kF so nf _ p ((s1.trans (same_of_upd hd)).trans (same_of_upd hp)) upd_same⟩
end
end K45
/-! ## W16 -/
namespace K45
open PySem PySem.Spec PyProof.Rows L2
/-! ### the deck -/
def DkAt (H : Hp) (a c : Addr) (cells : List Int) (k : Int) : Prop := H a = some (.lst [.ref c, .int k]) ∧ H c = some (.lst (cells.map V.int)) ∧ cells.length ≤ 63 ∧ 0 ≤ k
def SameD (a c : Addr) (H H' : Hp) : Prop := ∀ b o, b ≠ a → b ≠ c → H b = some o → H' b = some o
theorem SameD.trans {a c : Addr} {H H1 H2 : Hp} (s : SameD a c H H1) (t : SameD a c H1 H2) : SameD a c H H2 := fun b o n1 n2 e => t b o n1 n2 (s b o n1 n2 e)
theorem Same.d {a c : Addr} {H H1 : Hp} (s : Same H H1) : SameD a c H H1 := fun b o _ _ e => s b o e
theorem DkAt.ne {H : Hp} {a c : Addr} {cells : List Int} {k : Int} (d : DkAt H a c cells k) : a ≠ c := by
  refine ne_of d.1 d.2.1 fun z => ?_
  cases cells with
  | nil => cases z
  | cons x l => cases z
theorem DkAt.same {H H' : Hp} {a c : Addr} {cells : List Int} {k : Int} (d : DkAt H a c cells k) (s : Same H H') : DkAt H' a c cells k := ⟨s _ _ d.1, s _ _ d.2.1, d.2.2⟩
def spDraw : Sp := fun vs H Q _ => ∃ (a c : Addr) (cells : List Int) (k many : Int), vs = [.ref a, .int many] ∧ DkAt H a c cells k ∧ k ≤ 100000 ∧ 1 ≤ many ∧ many ≤ 100000 ∧
  ∀ H' cells' v, SameD a c H H' → DkAt H' a c cells' (k + 1) → 0 ≤ v → v < many → Q (.int v) H'
/-- what follows an if, said once -/
theorem seq_have3 {A B C T : TS} {D : Ends} {σ : L2.St} {H : Hp} (Pv : L2.St → Hp → Prop) (h2 : ∀ σ' H', Pv σ' H' → T D σ' H') (h1 : (∀ σ' H', Pv σ' H' → T D σ' H') → tSeq A (tSeq B (tSeq C T)) D σ H) : tSeq A (tSeq B (tSeq C T)) D σ H := h1 h2
section
variable {P : Program} {w : World} {K : PySem.W.Frag} {mg : Str → Option Value} {base : Heap}
theorem sc_law_draw : FnScope ["_law_deck_here", "_law_many", "_law_cell", "_law_place"] ["_law_deck_here", "_law_many"] (defScope s_law_draw) := ⟨rfl, rfl, rfl, by decide +kernel, rfl, by decide +kernel, by decide +kernel⟩
theorem cl_law_draw (D : DefAt K mg "_law_draw" s_law_draw) (g_len : mg "len" = none) (g_int : mg "int" = none) : Cl P w K mg base CX0 1 "_law_draw" spDraw := by
  refine cl_of D (fun _ _ _ _ _ _ us hl => match us, hl with | [_, _], _ => rfl) sc_law_draw (fun vs H Q E h => ?_) (fun fp cdv A outer s H vs Q E hr h => ?_)
  · obtain ⟨a, c, cells, k, many, rfl, _⟩ := h
    rfl
  · obtain ⟨a, c, cells, k, many, rfl, dk, hk, m1, m2, hQ⟩ := h
    have hne := dk.ne
    obtain ⟨d1, d2, dl, k0⟩ := dk
    refine ⟨_, PSs.nox (pss_cons (ps_asg (pe_op op_add (pe_ix ix_list (pv 0) pe_int (fun _ _ => rfl)) pe_int) (pg_sub (pv 0) pe_int set_list))
      (pss_cons (ps_set (i := 2) sc_law_draw.nd rfl (Or.inl rfl) pe_int)
      (pss_cons (ps_set (i := 3) sc_law_draw.nd rfl (Or.inl rfl) (pe_un un_neg pe_int))
      (pss_cons (ps_if (pt_cmpR op_gt (pe_callB call_len (by rfl) g_len (by decide +kernel) (pa_cons (pe_ix ix_list (pv 0) pe_int (fun _ _ => rfl)) pa_nil)) pe_int (nomark _))
        (pss_cons (ps_set (i := 3) sc_law_draw.nd rfl (Or.inl rfl) (pe_op op_mod (pe_callTy call_int1 (by rfl) g_int (by decide +kernel) (pa_cons (pe_ix ix_list (pv 0) pe_int (fun _ _ => rfl)) pa_nil)) (pe_callB call_len (by rfl) g_len (by decide +kernel) (pa_cons (pe_ix ix_list (pv 0) pe_int (fun _ _ => rfl)) pa_nil))))
        (pss_one (ps_set (i := 2) sc_law_draw.nd rfl (Or.inl rfl) (pe_ix ix_list (pe_ix ix_list (pv 0) pe_int (fun _ _ => rfl)) (pv 3) (fun _ _ => rfl)))))
        pss_nil)
      (pss_cons (ps_if (pt_cmpR op_ge (pv 2) (pe_op op_pow pe_int pe_int) (nomark _))
        (pss_cons (ps_asg (pe_op op_fdivW (pv 2) (pv 1)) (pg_sub (pe_ix ix_list (pv 0) pe_int (fun _ _ => rfl)) (pv 3) set_list))
        (pss_one (ps_ret (pe_op op_mod (pe_callTy call_int1 (by rfl) g_int (by decide +kernel) (pa_cons (pv 2) pa_nil)) (pv 1)))))
        pss_nil)
      (pss_one (ps_ret (pe_op op_mod (pe_op op_mod (pe_callTy call_int1 (by rfl) g_int (by decide +kernel) (pa_cons (pe_op op_pow (pe_op op_add (pe_op op_add (pe_op op_mod (pe_callTy call_int1 (by rfl) g_int (by decide +kernel) (pa_cons (pv 2) pa_nil)) pe_int) (pe_op op_mul pe_int (pe_ix ix_list (pv 0) pe_int (fun _ _ => rfl)))) pe_int) pe_int) pa_nil)) pe_int) (pv 1))))))))), ?_⟩
    refine ⟨_, rfl, a, _, 1, .int k, rfl, rfl, SqL.of d1, rfl, _, _, rfl, rfl, ?_⟩
    refine ⟨_, rfl, a, _, 1, 1, rfl, rfl, d1, rfl, ?_⟩
    show tSeq (tAsg (tC (.int 0)) (gName 2)) (tSeq (tAsg (tUn (rU fun i => .int (-i)) (tC (.int 1))) (gName 3)) (tSeq (tIfS _ _ _) _)) _ [some (.ref a), some (.int many), none, none] (upd H a (.lst [.ref c, .int (k + 1)]))
    have u1 : upd H a (.lst [.ref c, .int (k + 1)]) a = some (.lst [.ref c, .int (k + 1)]) := upd_same
    have u2 : upd H a (.lst [.ref c, .int (k + 1)]) c = some (.lst (cells.map V.int)) := by rw [upd_ne (Ne.symm hne)]; exact d2
    have sd : SameD a c H (upd H a (.lst [.ref c, .int (k + 1)])) := fun b o n1 _ e => by rw [upd_ne n1]; exact e
    generalize upd H a (.lst [.ref c, .int (k + 1)]) = H1 at u1 u2 sd
    have fin : ∀ (cell : Int) (H' : Hp) (cells' : List Int), SameD a c H H' → H' a = some (.lst [.ref c, .int (k + 1)]) → H' c = some (.lst (cells'.map V.int)) → cells'.length ≤ 63 → Q (.int (cell % many)) H' := fun cell H' cells' s1 s2 s3 s4 =>
      hQ H' cells' _ s1 ⟨s2, s3, s4, by omega⟩ (Int.emod_nonneg _ (by omega)) (Int.emod_lt_of_pos _ (by omega))
    have lenE : (cells.map V.int).length = cells.length := List.length_map ..
    -- what is done with the cell
    refine seq_have3 (A := tAsg (tC (.int 0)) (gName 2)) (fun σ' H' => ∃ cell place : Int, (cell ≥ 10 ^ 18 → ∃ j, ixN (cells.map V.int).length place = some j) ∧ σ' = [some (.ref a), some (.int many), some (.int cell), some (.int place)] ∧ H' = H1) ?_ fun rest => ?_
    · rintro _ _ ⟨cell, place, hp, rfl, rfl⟩
      refine ⟨_, rfl, _, _, rfl, rfl, ⟨by decide, by decide, by decide⟩, _, _, rfl, rfl, _, rfl, ?_⟩
      by_cases hbig : cell ≥ 10 ^ 18
      · rw [decide_eq_true (show cell ≥ 10 ^ (18 : Int).toNat from hbig)]
        obtain ⟨j, hj⟩ := hp hbig
        refine iteT ⟨_, rfl, _, rfl, _, _, rfl, rfl, div_ok (n := 20) (by omega) (by omega) (by decide) (by decide), ?_⟩
        refine ⟨_, rfl, a, _, 0, .ref c, rfl, rfl, SqL.of u1, rfl, _, rfl, c, _, place, j, rfl, rfl, u2, hj, ?_⟩
        refine ⟨_, rfl, .inl ⟨_, rfl, _, rfl, _, _, rfl, rfl, (by show (0 : Int) < many; omega), ?_⟩⟩
        refine fin cell _ (cells.set j (cell / many)) (fun b o n1 n2 e => by rw [upd_ne n2]; exact sd b o n1 n2 e) (by rw [upd_ne hne]; exact u1) ?_ (by rw [List.length_set]; exact dl)
        rw [upd_same, List.map_set]
      · rw [decide_eq_false (show ¬ cell ≥ 10 ^ (18 : Int).toNat from hbig)]
        refine iteF ?_
        have q0 := Int.emod_nonneg cell (show (2147483587 : Int) ≠ 0 by decide)
        have q1 := Int.emod_lt_of_pos cell (show (0 : Int) < 2147483587 by decide)
        refine ⟨_, rfl, .inl ⟨_, rfl, _, _, rfl, rfl, (by show (0 : Int) < 2147483587; decide), _, rfl, a, _, 1, .int (k + 1), rfl, rfl, SqL.of u1, rfl, _, _, rfl, rfl, .inl ⟨by decide, by decide⟩, _, _, rfl, rfl, _, _, rfl, rfl, _, _, rfl, rfl, ?_, ?_⟩⟩
        · refine ⟨by decide, by decide, ?_⟩
          show (cell % 2147483587 + 7829 * (k + 1) + 29).natAbs < 2 ^ 64
          omega
        · refine .inl ⟨_, rfl, _, _, rfl, rfl, (by show (0 : Int) < 2147483423; decide), _, rfl, _, _, rfl, rfl, (by show (0 : Int) < many; omega), ?_⟩
          refine hQ _ cells _ sd ⟨u1, u2, dl, by omega⟩ ?_ ?_
          · exact Int.emod_nonneg _ (by omega)
          · exact Int.emod_lt_of_pos _ (by omega)
    refine ⟨_, rfl, _, rfl, a, _, 0, .ref c, rfl, rfl, SqL.of u1, rfl, .ref c, cells.length, rfl, .inl ⟨_, SqL.of u2, lenE.symm⟩, _, _, rfl, rfl, _, rfl, ?_⟩
    by_cases hc : 0 < cells.length
    · rw [decide_eq_true (show (0 : Int) < (cells.length : Int) by omega)]
      have p0 := Int.emod_nonneg (k + 1) (show (cells.length : Int) ≠ 0 by omega)
      have p1 := Int.emod_lt_of_pos (k + 1) (show (0 : Int) < (cells.length : Int) by omega)
      have hix : ixN (cells.map V.int).length ((k + 1) % (cells.length : Int)) = some ((k + 1) % (cells.length : Int)).toNat := by
        unfold ixN
        rw [if_pos p0, if_pos (by rw [lenE]; exact p1)]
      obtain ⟨z, hz⟩ : ∃ z, cells[((k + 1) % (cells.length : Int)).toNat]? = some z := ⟨_, List.getElem?_eq_getElem (by omega)⟩
      have hat : atI (cells.map V.int) ((k + 1) % (cells.length : Int)) = some (.int z) := by
        unfold atI
        rw [hix]
        show (cells.map V.int)[_]? = _
        rw [List.getElem?_map, hz]
        rfl
      refine iteT ⟨_, rfl, a, _, 1, .int (k + 1), rfl, rfl, SqL.of u1, rfl, .inl ⟨_, rfl, _, rfl, a, _, 0, .ref c, rfl, rfl, SqL.of u1, rfl, .ref c, cells.length, rfl, .inl ⟨_, SqL.of u2, lenE.symm⟩, _, _, rfl, rfl, (by show (0 : Int) < (cells.length : Int); omega), ?_⟩⟩
      refine ⟨_, rfl, a, _, 0, .ref c, rfl, rfl, SqL.of u1, rfl, _, rfl, c, _, _, .int z, rfl, rfl, SqL.of u2, hat, ?_⟩
      exact rest _ _ ⟨z, _, fun _ => ⟨_, hix⟩, rfl, rfl⟩
    · rw [decide_eq_false (show ¬ (0 : Int) < (cells.length : Int) by omega)]
      exact iteF (rest _ _ ⟨0, -1, fun z => absurd z (by decide), rfl, rfl⟩)
end
end K45
/-! ## W17 -/
namespace K45
open PySem PySem.Spec PyProof.Rows L2
def spLTen : Sp := fun vs H Q _ => ∃ n : Int, vs = [.int n] ∧ -1000 ≤ n ∧ n ≤ 1000 ∧ Q (.int (tenP n)) H
def spPick : Sp := fun vs H Q _ => ∃ (a c : Addr) (cells : List Int) (k : Int) (sa : Addr) (xs : List V), vs = [.ref a, .ref sa] ∧ DkAt H a c cells k ∧ k ≤ 100000 ∧ H sa = some (.lst xs) ∧ sa ≠ a ∧ sa ≠ c ∧ 1 ≤ xs.length ∧ xs.length ≤ 1000 ∧
  ∀ H' cells' x, SameD a c H H' → DkAt H' a c cells' (k + 1) → x ∈ xs → Q x H'
def spDeck (K : PySem.W.Frag) : Sp := fun vs H Q _ => ∃ (a : Addr) (ns : List Int), vs = [.ref a] ∧ SqL K H a (ns.map V.int) ∧ ∀ H' p c cells, Same H H' → DkAt H' p c cells 0 → Q (.ref p) H'
section
variable {P : Program} {w : World} {K : PySem.W.Frag} {mg : Str → Option Value} {base : Heap}
theorem tenP_next (i : Nat) : tenP ((i : Int) + 1) = tenP (i : Int) * 10 := by
  unfold tenP
  rw [show ((i : Int) + 1).toNat = i + 1 by omega, Int.toNat_natCast, Int.pow_succ]
theorem sc_law_ten : FnScope ["_law_many", "_law_found", "_law_k"] ["_law_many"] (defScope s_law_ten) := ⟨rfl, rfl, rfl, by decide +kernel, rfl, by decide +kernel, by decide +kernel⟩
theorem cl_law_ten (D : DefAt K mg "_law_ten" s_law_ten) (g_range : mg "range" = none) : Cl P w K mg base CX0 1 "_law_ten" spLTen := by
  refine cl_of D (fun _ _ _ _ _ _ us hl => match us, hl with | [_], _ => rfl) sc_law_ten (fun vs H Q E h => ?_) (fun fp cdv A outer s H vs Q E hr h => ?_)
  · obtain ⟨n, rfl, _⟩ := h
    rfl
  · obtain ⟨n, rfl, n0, n1, hQ⟩ := h
    refine ⟨_, PSs.nox (pss_cons (ps_set (i := 1) sc_law_ten.nd rfl (Or.inl rfl) pe_int)
      (pss_cons (ps_for PassesOwn.never rfl (pi_range1 (by rfl) g_range (pa_cons (pv 0) pa_nil)) (pg_name (i := 2) sc_law_ten.nd rfl (Or.inl rfl))
        (pss_one (ps_set (i := 1) sc_law_ten.nd rfl (Or.inl rfl) (pe_op op_mul (pv 1) pe_int))))
      (pss_one (ps_ret (pv 1))))), ?_⟩
    refine ⟨_, rfl, n, rfl, by omega, by omega, for_range (n := n.toNat) (fun i σ H' => ∃ v, σ = [some (.int n), some (.int (tenP (i : Int))), v] ∧ H' = H) ⟨none, rfl, rfl⟩ ?_ ?_⟩
    · rintro i σ H' hi ⟨v, rfl, rfl⟩
      refine ⟨_, rfl, _, _, rfl, rfl, .inr ⟨by decide, by decide⟩, some (.int (0 + (i : Int))), ?_, rfl⟩
      show [some (V.int n), some (V.int (tenP (i : Int) * 10)), some (.int (0 + (i : Int)))] = _
      rw [← tenP_next]
      rfl
    · rintro σ H' ⟨v, rfl, rfl⟩
      refine ⟨_, rfl, ?_⟩
      have e : tenP ((n.toNat : Nat) : Int) = tenP n := by
        unfold tenP
        rw [Int.toNat_natCast]
      show Q (.int (tenP ((n.toNat : Nat) : Int))) _
      rw [e]
      exact hQ
theorem sc_law_pick : FnScope ["_law_deck_here", "_law_some"] ["_law_deck_here", "_law_some"] (defScope s_law_pick) := ⟨rfl, rfl, rfl, by decide +kernel, rfl, by decide +kernel, by decide +kernel⟩
theorem cl_law_pick (D : DefAt K mg "_law_pick" s_law_pick) (g_len : mg "len" = none) (c_law_draw : Cl P w K mg base CX0 1 "_law_draw" spDraw) : Cl P w K mg base CX0 2 "_law_pick" spPick := by
  refine cl_of D (fun _ _ _ _ _ _ us hl => match us, hl with | [_, _], _ => rfl) sc_law_pick (fun vs H Q E h => ?_) (fun fp cdv A outer s H vs Q E hr h => ?_)
  · obtain ⟨a, c, cells, k, sa, xs, rfl, _⟩ := h
    rfl
  · obtain ⟨a, c, cells, k, sa, xs, rfl, dk, hk, hs, n1, n2, l1, l2, hQ⟩ := h
    refine ⟨_, PSs.nox (pss_one (ps_ret (pe_ix ix_list (pv 1) (pe_cl c_law_draw hr (by decide) pass0 (pa_cons (pv 0) (pa_cons (pe_callB call_len (by rfl) g_len (by decide +kernel) (pa_cons (pv 1) pa_nil)) pa_nil))) (fun _ _ => rfl)))), ?_⟩
    refine ⟨_, rfl, _, rfl, _, rfl, .ref sa, xs.length, rfl, .inl ⟨_, SqL.of hs, rfl⟩, a, c, cells, k, _, rfl, dk, hk, by omega, by omega, fun H' cells' v s1 d1 v0 v1 => ?_⟩
    obtain ⟨x, hx⟩ : ∃ x, xs[v.toNat]? = some x := ⟨_, List.getElem?_eq_getElem (by omega)⟩
    have hat : atI xs v = some x := by
      unfold atI ixN
      rw [if_pos v0, if_pos v1]
      exact hx
    exact ⟨sa, xs, v, x, rfl, rfl, SqL.of (s1 _ _ n1 n2 hs), hat, hQ H' cells' x s1 d1 (List.mem_of_getElem? hx)⟩
theorem sc_law_whole : FnScope ["_law_thing"] ["_law_thing"] (defScope s_law_whole) := ⟨rfl, rfl, rfl, by decide +kernel, rfl, by decide +kernel, by decide +kernel⟩
theorem cl_law_whole (D : DefAt K mg "_law_whole" s_law_whole) (g_isinstance : mg "isinstance" = none) (g_int : mg "int" = none) (g_bool : mg "bool" = none) : Cl P w K mg base CX0 1 "_law_whole" (spWhole K) := by
  refine cl_of D (fun _ _ _ _ _ _ us hl => match us, hl with | [_], _ => rfl) sc_law_whole (fun vs H Q E h => ?_) (fun f cdv A outer s H vs Q E hr h => ?_)
  · obtain ⟨x, b, rfl, _⟩ := h
    rfl
  · obtain ⟨x, b, rfl, hw, hQ⟩ := h
    refine ⟨_, PSs.nox (pss_one (ps_ret (pe_and (pe_callB call_isi (by rfl) g_isinstance (by decide +kernel) (pa_cons (pv 0) (pa_cons (pe_bltn (v := .ty "int") (by rfl) g_int (by decide +kernel) rfl) pa_nil))) (pe_one (pe_not (pe_callB call_isi (by rfl) g_isinstance (by decide +kernel) (pa_cons (pv 0) (pa_cons (pe_bltn (v := .ty "bool") (by rfl) g_bool (by decide +kernel) rfl) pa_nil)))))))), ?_⟩
    cases hw with
    | int i =>
      refine ⟨_, rfl, _, _, _, _, true, rfl, .ty _, .base (.int i), kit_ty (by decide +kernel), _, rfl, ?_⟩
      refine iteT ⟨_, rfl, _, _, _, _, false, rfl, .ty _, .base (.int i), kit_ty (by decide +kernel), _, rfl, ?_⟩
      exact hQ
    | bl b =>
      refine ⟨_, rfl, _, _, _, _, true, rfl, .ty _, .base (.bl b), kit_ty (by decide +kernel), _, rfl, ?_⟩
      refine iteT ⟨_, rfl, _, _, _, _, true, rfl, .ty _, .base (.bl b), kit_ty (by decide +kernel), _, rfl, ?_⟩
      exact hQ
    | oth t h1 h2 =>
      refine ⟨_, rfl, _, _, _, _, false, rfl, .ty _, t, kit_ty h1, _, rfl, ?_⟩
      exact iteF hQ
theorem sc_law_deck : FnScope ["_law_script", "_law_cell"] ["_law_script"] (defScope s_law_deck) := ⟨rfl, rfl, rfl, by decide +kernel, rfl, by decide +kernel, by decide +kernel⟩
theorem cl_law_deck (D : DefAt K mg "_law_deck" s_law_deck) (g_abs : mg "abs" = none) : Cl P w K mg base CX0 1 "_law_deck" (spDeck K) := by
  refine cl_of D (fun _ _ _ _ _ _ us hl => match us, hl with | [_], _ => rfl) sc_law_deck (fun vs H Q E h => ?_) (fun f cdv A outer s H vs Q E hr h => ?_)
  · obtain ⟨x, b, rfl, _⟩ := h
    rfl
  · obtain ⟨a, ns, rfl, hs, hQ⟩ := h
    refine ⟨_, PSs.nox (pss_one (ps_ret (pe_lst (pa_cons (pe_lc (own := [("_law_cell", 1)]) rfl sc_law_deck.nd (pi_list (pe_slice sl_list (pv 0) po_none (po_some pe_int))) (blkOk_by (N := ["_law_script", "_law_cell"]) (sc := defScope s_law_deck) (by decide +kernel)) (fun _ _ _ _ _ => by exact (pg_name (i := 1) sc_law_deck.nd rfl (Or.inl rfl))) (fun _ _ _ _ _ => pts_nil) (fun _ _ _ _ _ => (pe_callB call_abs (by rfl) g_abs (by decide +kernel) (pa_cons (pv 1) pa_nil)))) (pa_cons pe_int pa_nil))))), ?_⟩
    have cut : ∃ ms : List Int, cutV (ns.map V.int) none (some 63) = ms.map V.int ∧ ms.length ≤ 63 := by
      refine ⟨(ns.drop (HT.sIx (ns.map V.int).length 0 none)).take (HT.sIx (ns.map V.int).length (ns.map V.int).length (some 63) - HT.sIx (ns.map V.int).length 0 none), ?_, ?_⟩
      · unfold cutV
        rw [List.map_take, List.map_drop]
      · rw [List.length_take]
        have : HT.sIx (ns.map V.int).length (ns.map V.int).length (some 63) ≤ 63 := by
          unfold HT.sIx
          simp
          omega
        omega
    obtain ⟨ms, hms, lms⟩ := cut
    refine ⟨_, rfl, 63, rfl, a, _, rfl, hs, fun B hB => ?_⟩
    rw [hms]
    have sB : Same H (upd H B (.lst (ms.map V.int))) := same_of_upd hB
    have bB : upd H B (.lst (ms.map V.int)) B = some (.lst (ms.map V.int)) := upd_same
    generalize upd H B (.lst (ms.map V.int)) = H1 at sB bB
    refine ⟨B, rfl, ⟨_, SqL.of bB⟩, fun D hD => lc_list (xs := ms.map V.int)
        (fun i H2 => Same H1 H2 ∧ ∃ zs : List Int, H2 D = some (.lst (zs.map V.int)) ∧ zs.length = i) ⟨same_of_upd hD, [], upd_same, rfl⟩
        (fun i H2 hi ⟨s2, _⟩ => SqL.of (s2 _ _ bB)) (fun i x H2 hx ⟨s2, zs, l2, n2⟩ => ?_) (fun H2 ⟨s2, zs, l2, n2⟩ => ?_)⟩
    · obtain ⟨z, hz, rfl⟩ := map_get hx
      have hi63 := (List.getElem?_eq_some_iff.mp hz).1
      refine ⟨rfl, ?_⟩
      refine yes_it (iteT ⟨_, rfl, _, rfl, zs.map V.int, l2, ?_, ?_⟩)
      · rw [List.length_map, n2]
        show _ < 2 ^ 24
        omega
      · refine ⟨same_up s2 hD, zs ++ [if z < 0 then -z else z], ?_, ?_⟩
        · rw [upd_same, List.map_append]
          rfl
        · rw [List.length_append, n2]
          rfl
    · refine ⟨(by show 2 ≤ sizeLine; decide), fun p hp => ?_⟩
      have np : D ≠ p := ne_of_none l2 hp
      refine hQ _ p D zs ((sB.trans s2).trans (same_of_upd hp)) ⟨upd_same, ?_, ?_, Int.le_refl _⟩
      · rw [upd_ne np]; exact l2
      · rw [n2, List.length_map]; exact lms
end
end K45
/-! ## W18 -/
namespace K45
open PySem PySem.Spec PyProof.Rows L2
def spCut : Sp := fun vs H Q _ => ∃ (P : Int) (b : Nat), vs = [.int P, .int (b : Int)] ∧ -5 ≤ P ∧ P ≤ 3 ∧ 1 ≤ b ∧ b ≤ 12 ∧
  ∀ H' p g s h, Same H H' → H' p = some (.tup [.int P, .int g, .int s, .int h]) → 1 ≤ g → g ≤ 4096 → -30 ≤ s → s ≤ 9 → 0 ≤ h → h ≤ 1 → Q (.ref p) H'
theorem pp_next {j : Int} (h : 0 ≤ j) : pp (j + 1) = 2 * pp j := by
  unfold pp
  rw [show (j + 1).toNat = j.toNat + 1 by omega, p2succ]
theorem pp_lt {j : Int} {n : Nat} {z : Int} (h : pp j ≤ z) (hz : z < 2 ^ n) : j < n := by
  by_cases hj : j < n
  · exact hj
  · have : (2 : Int) ^ n ≤ 2 ^ j.toNat := p2mono (by omega)
    have h' : (2 : Int) ^ j.toNat ≤ z := h
    omega
section
variable {P : Program} {w : World} {K : PySem.W.Frag} {mg : Str → Option Value} {base : Heap}
theorem sc_law_cut : FnScope ["_law_power_here", "_law_bits", "_law_num", "_law_den", "_law_shift"] ["_law_power_here", "_law_bits"] (defScope s_law_cut) := ⟨rfl, rfl, rfl, by decide +kernel, rfl, by decide +kernel, by decide +kernel⟩
theorem cl_law_cut (D : DefAt K mg "_law_cut" s_law_cut) (g_int : mg "int" = none) (c_law_ten : Cl P w K mg base CX0 1 "_law_ten" spLTen) : Cl P w K mg base CX0 2 "_law_cut" spCut := by
  refine cl_of D (fun _ _ _ _ _ _ us hl => match us, hl with | [_, _], _ => rfl) sc_law_cut (fun vs H Q E h => ?_) (fun fp cdv A outer s H vs Q E hr h => ?_)
  · obtain ⟨n, b, rfl, _⟩ := h
    rfl
  · obtain ⟨p, b, rfl, p0, p1, b0, b1, hQ⟩ := h
    refine ⟨_, PSs.nox (pss_cons (ps_par3 (i := 2) (j := 3) (l := 4) rfl sc_law_cut.nd rfl rfl rfl (by decide) (by decide) (by decide) rfl rfl rfl (pa_cons (pe_cl c_law_ten hr (by decide) pass0 (pa_cons (pv 0) pa_nil)) (pa_cons (pe_cl c_law_ten hr (by decide) pass0 (pa_cons (pe_op op_sub pe_int (pv 0)) pa_nil)) (pa_cons pe_int pa_nil))) (by rfl))
      (pss_cons (ps_while PassesOwn.never (pt_cmpR op_ge (pv 2) (pe_op op_shl (pv 3) (pv 1)) (nomark _))
        (pss_one (ps_par (i := 3) (j := 4) rfl sc_law_cut.nd rfl rfl (by decide) rfl rfl (pa_cons (pe_op op_mul pe_int (pv 3)) (pa_cons (pe_op op_add (pv 4) pe_int) pa_nil)) (by rfl))))
      (pss_cons (ps_while PassesOwn.never (pt_cmpR op_lt (pv 2) (pe_op op_shl (pv 3) (pe_op op_sub (pv 1) pe_int)) (nomark _))
        (pss_one (ps_par (i := 2) (j := 4) rfl sc_law_cut.nd rfl rfl (by decide) rfl rfl (pa_cons (pe_op op_mul pe_int (pv 2)) (pa_cons (pe_op op_sub (pv 4) pe_int) pa_nil)) (by rfl))))
      (pss_one (ps_ret (pe_tup (pa_cons (pv 0) (pa_cons (pe_op op_fdivW (pv 2) (pv 3)) (pa_cons (pv 4) (pa_cons (pe_callTy call_int1 (by rfl) g_int (by decide +kernel) (pa_cons (pe_cmpR op_ne (pv 2) (pe_op op_mul (pe_op op_fdivW (pv 2) (pv 3)) (pv 3)) (nomark _)) pa_nil)) pa_nil)))))))))), ?_⟩
    have t1 := tenP_pos p
    have t2 := tenP_pos (-p)
    have t3 := tenP_le (z := -p) (by omega)
    have t4 : tenP p ≤ 1000 := by
      have : p.toNat ≤ 3 := by omega
      unfold tenP
      generalize p.toNat = n at this
      match n, this with
      | 0, _ => decide
      | 1, _ => decide
      | 2, _ => decide
      | 3, _ => decide
    refine ⟨_, rfl, p, rfl, by omega, by omega, _, rfl, _, _, rfl, rfl, 0 - p, rfl, by omega, by omega, _, _, _, rfl, ?_⟩
    rw [show 0 - p = -p by omega]
    generalize tenP p = T1 at t1 t4
    generalize tenP (-p) = T2 at t2 t3
    obtain ⟨B, hB, hB0, hB1, hB2⟩ : ∃ B : Int, (2 : Int) ^ (b - 1) = B ∧ (2 : Int) ^ b = 2 * B ∧ 1 ≤ B ∧ B ≤ 2048 := by
      refine ⟨_, rfl, ?_, ?_, ?_⟩
      · rw [← p2succ, show b - 1 + 1 = b by omega]
      · have := p2pos (b - 1); omega
      · exact p2mono (a := b - 1) (b := 11) (by omega)
    refine ⟨fun m σ H' => ∃ den j : Int, σ = [some (.int p), some (.int (b : Int)), some (.int T1), some (.int den), some (.int j)] ∧ H' = H ∧ 1 ≤ den ∧ den ≤ 100000 ∧ 0 ≤ j ∧ j ≤ 10 ∧ pp j ≤ den ∧ ((j = 0 ∧ den = T2) ∨ (1 ≤ j ∧ den * B ≤ T1)) ∧ m = (1000000 - den).toNat, ⟨_, T2, 0, rfl, rfl, by omega, by omega, by omega, by omega, by show (1 : Int) ≤ T2; omega, .inl ⟨rfl, rfl⟩, rfl⟩, ?_⟩
    rintro m σ H' ⟨den, j, rfl, rfl, e0, e1, j0, j1, jd, inv, rfl⟩
    refine ⟨_, rfl, _, rfl, _, rfl, _, _, rfl, rfl, ⟨by omega, by omega, by omega⟩, _, _, rfl, rfl, _, rfl, ?_⟩
    rw [show den * 2 ^ ((b : Nat) : Int).toNat = 2 * (den * B) by rw [Int.toNat_natCast, hB0, Int.mul_left_comm]]
    have nn : 1 ≤ den * B := by
      have := Int.mul_le_mul_of_nonneg_left hB1 (show 0 ≤ den by omega)
      omega
    by_cases c : 2 * (den * B) ≤ T1
    · rw [decide_eq_true c]
      refine iteT ⟨_, fun _ _ h => h, ?_⟩
      have dl : den ≤ den * B := by
        have := Int.mul_le_mul_of_nonneg_left hB1 (show 0 ≤ den by omega)
        omega
      have jl := pp_lt (n := 9) jd (by omega)
      refine ⟨_, rfl, _, _, rfl, rfl, .inl ⟨by decide, by decide⟩, _, rfl, _, _, rfl, rfl, _, _, rfl, ?_⟩
      refine ⟨_, (show (1000000 - 2 * den).toNat < (1000000 - den).toNat by omega), 2 * den, j + 1, rfl, rfl, by omega, by omega, by omega, by omega, ?_, .inr ⟨by omega, ?_⟩, rfl⟩
      · rw [pp_next j0]; omega
      · rw [Int.mul_assoc]; omega
    · rw [decide_eq_false c]
      refine iteF ?_
      refine ⟨fun m σ H2 => ∃ num s : Int, σ = [some (.int p), some (.int (b : Int)), some (.int num), some (.int den), some (.int s)] ∧ H2 = H' ∧ 1 ≤ num ∧ num < 2 * (den * B) ∧ ((num = T1 ∧ s = j) ∨ (j = 0 ∧ s ≤ 0 ∧ -28 ≤ s ∧ pp (-s) ≤ num ∧ den = T2)) ∧ m = (2 * (den * B) - num).toNat, ⟨_, T1, j, rfl, rfl, by omega, by omega, .inl ⟨rfl, rfl⟩, rfl⟩, ?_⟩
      rintro m σ H2 ⟨num, s, rfl, rfl, n0, n1, inv2, rfl⟩
      refine ⟨_, rfl, _, rfl, _, rfl, _, _, rfl, rfl, _, _, rfl, rfl, ⟨by omega, by omega, by omega⟩, _, _, rfl, rfl, _, rfl, ?_⟩
      rw [show den * 2 ^ ((b : Int) - 1).toNat = den * B by rw [show ((b : Int) - 1).toNat = b - 1 by omega, hB]]
      have d17 : den * B ≤ 100000 * 2048 := by
        have h1 := Int.mul_le_mul_of_nonneg_left hB2 (show 0 ≤ den by omega)
        have h2 := Int.mul_le_mul_of_nonneg_right e1 (show (0 : Int) ≤ 2048 by decide)
        omega
      by_cases c2 : num < den * B
      · rw [decide_eq_true c2]
        refine iteT ⟨_, fun _ _ h => h, ?_⟩
        refine ⟨_, rfl, _, _, rfl, rfl, .inl ⟨by decide, by decide⟩, _, rfl, _, _, rfl, rfl, _, _, rfl, ?_⟩
        have jz : j = 0 ∧ den = T2 := by
          rcases inv with z | z
          · exact z
          · rcases inv2 with y | y
            · omega
            · exact ⟨y.1, y.2.2.2.2⟩
        have q : s ≤ 0 ∧ -28 ≤ s - 1 ∧ pp (-(s - 1)) ≤ 2 * num := by
          have hs : s ≤ 0 ∧ pp (-s) ≤ num := by
            rcases inv2 with y | y
            · have : s = 0 := by omega
              rw [this]
              exact ⟨by omega, by show (1 : Int) ≤ num; omega⟩
            · exact ⟨y.2.1, y.2.2.2.1⟩
          have := pp_lt (n := 28) hs.2 (by omega)
          refine ⟨hs.1, by omega, ?_⟩
          rw [show -(s - 1) = -s + 1 by omega, pp_next (by omega)]
          omega
        exact ⟨_, (show (2 * (den * B) - 2 * num).toNat < (2 * (den * B) - num).toNat by omega), 2 * num, s - 1, rfl, rfl, by omega, by omega, .inr ⟨jz.1, by omega, q.2.1, q.2.2, jz.2⟩, rfl⟩
      · rw [decide_eq_false c2]
        refine iteF ?_
        have g0 : 1 ≤ num / den := by
          rw [Int.le_ediv_iff_mul_le (by omega)]
          have := Int.mul_le_mul_of_nonneg_left hB1 (show 0 ≤ den by omega)
          omega
        have g1 : num / den < 4097 := by
          refine Int.ediv_lt_of_lt_mul (by omega) ?_
          have := Int.mul_le_mul_of_nonneg_left hB2 (show 0 ≤ den by omega)
          omega
        have sb : -30 ≤ s ∧ s ≤ 9 := by
          rcases inv2 with y | y
          · rcases inv with z | z
            · omega
            · have := pp_lt (n := 10) jd (by have := Int.mul_le_mul_of_nonneg_left hB1 (show 0 ≤ den by omega); omega)
              omega
          · omega
        refine ⟨_, rfl, _, rfl, _, rfl, _, _, rfl, rfl, div_ok (n := 20) (by omega) (by omega) (by decide) (by decide), _, rfl, ?_⟩
        refine ⟨_, rfl, _, rfl, _, rfl, _, _, rfl, rfl, div_ok (n := 20) (by omega) (by omega) (by decide) (by decide), _, rfl, _, _, rfl, rfl, .inr ⟨by omega, by omega⟩, rfl, .inr ⟨_, rfl, ?_⟩⟩
        refine ⟨(by show 4 ≤ sizeLine; decide), fun q hq => ?_⟩
        refine hQ _ q (num / den) s _ (same_of_upd hq) upd_same g0 (by omega) sb.1 sb.2 ?_ ?_
        · split <;> decide
        · split <;> decide
end
end K45
/-! ## W19 -/
namespace K45
open PySem PySem.Spec PyProof.Rows L2
/-- a law's slope stands as a list -/
def LwAt (H : Hp) (a : Addr) (l : Lw) : Prop := H a = some (.lst [.int l.A, .int l.D])
def lwOf (f : Fo) (P g s : Int) : Lw := ⟨g * tenP P * pp (s - f.low), tenP (-P) * pp (f.low - s)⟩
def spLSlope : Sp := fun vs H Q _ => ∃ (fa : Addr) (f : Fo) (P g s : Int), vs = [.ref fa, .int P, .int g, .int s] ∧ FoAt H fa f ∧ FoB f ∧ -5 ≤ P ∧ P ≤ 5 ∧ 0 < g ∧ g < 2 ^ 14 ∧ -50 ≤ s ∧ s ≤ 30 ∧
  ∀ H' p, Same H H' → LwAt H' p (lwOf f P g s) → Q (.ref p) H'
def spLSound : Sp := fun vs H Q _ => ∃ (a : Addr) (r : Row), vs = [.ref a] ∧ RowAt H a r ∧ RowB r ∧ Q (.bl (decide r.Sound)) H
theorem max_nat (m : Int) : (if m > 0 then m else 0).toNat = m.toNat := by split <;> omega
theorem lw_run (f : Fo) (r : Row) : lwOf f 0 r.g r.s = r.lawRun f := by
  unfold lwOf Row.lawRun
  have : tenP 0 = 1 := rfl
  have h2 : tenP (-0) = 1 := rfl
  rw [this, h2, Int.mul_one, Int.one_mul]
theorem lw_val (f : Fo) (r : Row) : lwOf f r.P 1 0 = r.lawVal f := by
  unfold lwOf Row.lawVal
  rw [Int.one_mul, Int.zero_sub, Int.sub_zero]
section
variable {P : Program} {w : World} {K : PySem.W.Frag} {mg : Str → Option Value} {base : Heap}
theorem sc_law_slope : FnScope ["_law_form_here", "_law_power_here", "_law_factor", "_law_shift", "_law_num", "_law_den", "_law_more"] ["_law_form_here", "_law_power_here", "_law_factor", "_law_shift"] (defScope s_law_slope) := ⟨rfl, rfl, rfl, by decide +kernel, rfl, by decide +kernel, by decide +kernel⟩
theorem cl_law_slope (D : DefAt K mg "_law_slope" s_law_slope) (g_max : mg "max" = none) (c_law_ten : Cl P w K mg base CX0 1 "_law_ten" spLTen) : Cl P w K mg base CX0 2 "_law_slope" spLSlope := by
  refine cl_of D (fun _ _ _ _ _ _ us hl => match us, hl with | [_, _, _, _], _ => rfl) sc_law_slope (fun vs H Q E h => ?_) (fun fp cdv A outer s H vs Q E hr h => ?_)
  · obtain ⟨fa, f, p, g, sh, rfl, _⟩ := h
    rfl
  · obtain ⟨fa, f, p, g, sh, rfl, hf, bf, p0, p1, g0, g1, s0, s1, hQ⟩ := h
    refine ⟨_, PSs.nox (pss_cons (ps_par (i := 4) (j := 5) rfl sc_law_slope.nd rfl rfl (by decide) rfl rfl (pa_cons (pe_op op_mul (pv 2) (pe_cl c_law_ten hr (by decide) pass0 (pa_cons (pv 1) pa_nil))) (pa_cons (pe_cl c_law_ten hr (by decide) pass0 (pa_cons (pe_op op_sub pe_int (pv 1)) pa_nil)) pa_nil)) (by rfl))
      (pss_cons (ps_set (i := 6) sc_law_slope.nd rfl (Or.inl rfl) (pe_op op_sub (pv 3) (pe_ix ix_tup (pv 0) pe_int (fun _ _ => rfl))))
      (pss_one (ps_ret (pe_lst (pa_cons (pe_op op_shl (pv 4) (pe_callB (call_max2 rfl) (by rfl) g_max (by decide +kernel) (pa_cons pe_int (pa_cons (pv 6) pa_nil)))) (pa_cons (pe_op op_shl (pv 5) (pe_callB (call_max2 rfl) (by rfl) g_max (by decide +kernel) (pa_cons pe_int (pa_cons (pe_op op_sub pe_int (pv 6)) pa_nil)))) pa_nil))))))), ?_⟩
    have t1 := tenP_pos p
    have t2 := tenP_pos (-p)
    have t3 := tenP_le (z := -p) (by omega)
    have t4 := tenP_le (z := p) (by omega)
    have := bf.l0
    have := bf.l1
    have gt : g * tenP p < 2 ^ 14 * 2 ^ 17 ∧ 0 < g * tenP p := by
      refine ⟨Int.lt_of_le_of_lt (Int.mul_le_mul_of_nonneg_left t4 (by omega)) ?_, Int.mul_pos g0 t1⟩
      omega
    refine ⟨_, rfl, _, rfl, p, rfl, by omega, by omega, _, _, rfl, rfl, .inl ⟨by omega, by omega⟩, _, rfl, _, _, rfl, rfl, 0 - p, rfl, by omega, by omega, _, _, rfl, ?_⟩
    rw [show 0 - p = -p by omega]
    refine ⟨_, rfl, _, rfl, fa, _, 1, .int f.low, rfl, rfl, SqT.of hf, rfl, _, _, rfl, rfl, ?_⟩
    refine ⟨_, rfl, _, rfl, _, _, rfl, _, _, rfl, rfl, ⟨by split <;> omega, by split <;> omega, by omega⟩, ?_⟩
    refine ⟨_, rfl, _, rfl, _, _, rfl, rfl, _, _, rfl, _, _, rfl, rfl, ⟨by split <;> omega, by split <;> omega, by omega⟩, (by show 2 ≤ sizeLine; decide), fun q hq => ?_⟩
    refine hQ _ q (same_of_upd hq) ?_
    show upd _ _ _ _ = _
    rw [upd_same]
    unfold lwOf pp
    show some (HO.lst [V.int (g * tenP p * 2 ^ (if sh - f.low > 0 then sh - f.low else 0).toNat), V.int (tenP (-p) * 2 ^ (if 0 - (sh - f.low) > 0 then 0 - (sh - f.low) else 0).toNat)]) = _
    rw [max_nat, max_nat, show 0 - (sh - f.low) = f.low - sh by omega]
theorem sc_law_sound : FnScope ["_law_row_here", "_law_power_here", "_law_factor", "_law_shift", "_law_height", "_law_num", "_law_den"] ["_law_row_here"] (defScope s_law_sound) := ⟨rfl, rfl, rfl, by decide +kernel, rfl, by decide +kernel, by decide +kernel⟩
theorem cl_law_sound (D : DefAt K mg "_law_sound" s_law_sound) (g_max : mg "max" = none) (c_law_ten : Cl P w K mg base CX0 1 "_law_ten" spLTen) : Cl P w K mg base CX0 2 "_law_sound" spLSound := by
  refine cl_of D (fun _ _ _ _ _ _ us hl => match us, hl with | [_], _ => rfl) sc_law_sound (fun vs H Q E h => ?_) (fun fp cdv A outer s H vs Q E hr h => ?_)
  · obtain ⟨a, r, rfl, _⟩ := h
    rfl
  · obtain ⟨a, r, rfl, ha, br, hQ⟩ := h
    refine ⟨_, PSs.nox (pss_cons (ps_asg (pv 0) (pg_tup rfl (pgs_cons (pg_name (i := 1) sc_law_sound.nd rfl (Or.inl rfl)) (pgs_cons (pg_name (i := 2) sc_law_sound.nd rfl (Or.inl rfl)) (pgs_cons (pg_name (i := 3) sc_law_sound.nd rfl (Or.inl rfl)) (pgs_cons (pg_name (i := 4) sc_law_sound.nd rfl (Or.inl rfl)) pgs_nil))))))
      (pss_cons (ps_par (i := 5) (j := 6) rfl sc_law_sound.nd rfl rfl (by decide) rfl rfl (pa_cons (pe_op op_shl (pe_cl c_law_ten hr (by decide) pass0 (pa_cons (pv 1) pa_nil)) (pe_callB (call_max2 rfl) (by rfl) g_max (by decide +kernel) (pa_cons pe_int (pa_cons (pe_op op_sub pe_int (pv 3)) pa_nil)))) (pa_cons (pe_op op_shl (pe_cl c_law_ten hr (by decide) pass0 (pa_cons (pe_op op_sub pe_int (pv 1)) pa_nil)) (pe_callB (call_max2 rfl) (by rfl) g_max (by decide +kernel) (pa_cons pe_int (pa_cons (pv 3) pa_nil)))) pa_nil)) (by rfl))
      (pss_one (ps_ret (pe_chain op_le op_le (pe_op op_mul (pv 2) (pv 6)) (pv 5) (pe_op op_mul (pe_op op_add (pv 2) (pv 4)) (pv 6))))))), ?_⟩
    obtain ⟨g1, g2, s0, s1, h0, h3, p0, p5⟩ := br
    have t1 := tenP_pos r.P
    have t2 := tenP_pos (-r.P)
    have t3 := tenP_le (z := -r.P) (by omega)
    have t4 := tenP_le (z := r.P) (by omega)
    refine ⟨_, rfl, a, _, rfl, SqT.of ha, rfl, _, _, rfl, _, _, rfl, _, _, rfl, _, _, rfl, rfl, ?_⟩
    refine ⟨_, rfl, r.P, rfl, by omega, by omega, _, rfl, _, _, rfl, rfl, _, _, rfl, _, _, rfl, rfl, ⟨by split <;> omega, by split <;> omega, by omega⟩, ?_⟩
    refine ⟨_, rfl, _, _, rfl, rfl, 0 - r.P, rfl, by omega, by omega, _, rfl, _, _, rfl, _, _, rfl, rfl, ⟨by split <;> omega, by split <;> omega, ?_⟩, _, _, rfl, ?_⟩
    · rw [show 0 - r.P = -r.P by omega]; omega
    rw [show 0 - r.P = -r.P by omega]
    have snd : r.Sound ↔ r.g * (tenP (-r.P) * 2 ^ (if r.s > 0 then r.s else 0).toNat) ≤ tenP r.P * 2 ^ (if 0 - r.s > 0 then 0 - r.s else 0).toNat ∧ tenP r.P * 2 ^ (if 0 - r.s > 0 then 0 - r.s else 0).toNat ≤ (r.g + r.h) * (tenP (-r.P) * 2 ^ (if r.s > 0 then r.s else 0).toNat) := by
      rw [max_nat, max_nat]
      have e : 0 - r.s = -r.s := by omega
      have e1 : r.g * pp r.s * tenP (-r.P) = r.g * (tenP (-r.P) * pp r.s) := by ac_rfl
      have e2 : (r.g + r.h) * pp r.s * tenP (-r.P) = (r.g + r.h) * (tenP (-r.P) * pp r.s) := by ac_rfl
      rw [e]
      refine ⟨fun ⟨a1, a2⟩ => ?_, fun ⟨a1, a2⟩ => ⟨?_, ?_⟩⟩
      · have b1 : ¬ tenP r.P * pp (-r.s) < r.g * pp r.s * tenP (-r.P) := a1
        have b2 : ¬ (r.g + r.h) * pp r.s * tenP (-r.P) < tenP r.P * pp (-r.s) := a2
        rw [e1] at b1
        rw [e2] at b2
        exact ⟨Int.not_lt.mp b1, Int.not_lt.mp b2⟩
      · show ¬ tenP r.P * pp (-r.s) < r.g * pp r.s * tenP (-r.P)
        rw [e1]
        exact Int.not_lt.mpr a1
      · show ¬ (r.g + r.h) * pp r.s * tenP (-r.P) < tenP r.P * pp (-r.s)
        rw [e2]
        exact Int.not_lt.mpr a2
    refine ⟨_, rfl, _, rfl, _, _, rfl, rfl, .inl ⟨by omega, by omega⟩, _, rfl, _, _, rfl, rfl, _, rfl, ?_⟩
    by_cases c1 : r.g * (tenP (-r.P) * 2 ^ (if r.s > 0 then r.s else 0).toNat) ≤ tenP r.P * 2 ^ (if 0 - r.s > 0 then 0 - r.s else 0).toNat
    · rw [decide_eq_true c1]
      refine iteT ⟨_, rfl, _, rfl, _, _, rfl, rfl, _, rfl, _, _, rfl, rfl, .inl ⟨by omega, by omega⟩, _, _, rfl, rfl, ?_⟩
      have e : decide r.Sound = decide (tenP r.P * 2 ^ (if 0 - r.s > 0 then 0 - r.s else 0).toNat ≤ (r.g + r.h) * (tenP (-r.P) * 2 ^ (if r.s > 0 then r.s else 0).toNat)) := decide_eq_decide.mpr (snd.trans ⟨fun z => z.2, fun z => ⟨c1, z⟩⟩)
      rw [e] at hQ
      exact hQ
    · rw [decide_eq_false c1]
      refine iteF ?_
      rw [decide_eq_false (fun z => c1 (snd.mp z).1)] at hQ
      exact hQ
end
end K45
/-! ## W20 -/
namespace K45
open PySem PySem.Spec PyProof.Rows L2
theorem seq_have1 {A T : TS} {D : Ends} {σ : L2.St} {H : Hp} (Pv : L2.St → Hp → Prop) (h2 : ∀ σ' H', Pv σ' H' → T D σ' H') (h1 : (∀ σ' H', Pv σ' H' → T D σ' H') → tSeq A T D σ H) : tSeq A T D σ H := h1 h2
theorem seq_have2 {A B T : TS} {D : Ends} {σ : L2.St} {H : Hp} (Pv : L2.St → Hp → Prop) (h2 : ∀ σ' H', Pv σ' H' → T D σ' H') (h1 : (∀ σ' H', Pv σ' H' → T D σ' H') → tSeq A (tSeq B T) D σ H) : tSeq A (tSeq B T) D σ H := h1 h2
theorem next_it {D : Ends} {σ : L2.St} {H : Hp} (h : D.nx σ H) : tNext D σ H := h
def sideI (s : Bool) : Int := if s then 1 else 0
def spTold : Sp := fun vs H Q _ => ∃ (w : Way) (s : Bool) (code e0 e1 x den : Int) (ea : Addr), vs = [.str (wayS w), .int code, .ref ea, .int x, .int den, .int (sideI s)] ∧ H ea = some (.lst [.int e0, .int e1]) ∧ 0 < den ∧ den < 2 ^ 64 ∧ Q (.int (toldL w s code e0 e1 x den)) H
theorem way_is (w v : Way) : decide (V.str (wayS w) = V.str (wayS v)) = decide (w = v) := by
  cases w <;> cases v <;> decide
theorem int_is (a b : Int) : decide (V.int a = V.int b) = decide (a = b) := by
  by_cases h : a = b
  · rw [decide_eq_true h, decide_eq_true (show V.int a = V.int b by rw [h])]
  · rw [decide_eq_false h, decide_eq_false (fun z => h (V.int.inj z))]
section
variable {P : Program} {w : World} {K : PySem.W.Frag} {mg : Str → Option Value} {base : Heap}
theorem sc_law_told : FnScope ["_law_way", "_law_code", "_law_ends", "_law_x", "_law_den", "_law_side", "_law_twice"] ["_law_way", "_law_code", "_law_ends", "_law_x", "_law_den", "_law_side"] (defScope s_law_told) := ⟨rfl, rfl, rfl, by decide +kernel, rfl, by decide +kernel, by decide +kernel⟩
theorem cl_law_told (D : DefAt K mg "_law_told" s_law_told) (g_int : mg "int" = none) : Cl P w K mg base CX0 1 "_law_told" spTold := by
  refine cl_of D (fun _ _ _ _ _ _ us hl => match us, hl with | [_, _, _, _, _, _], _ => rfl) sc_law_told (fun vs H Q E h => ?_) (fun fp cdv A outer s H vs Q E hr h => ?_)
  · obtain ⟨w, s, code, e0, e1, x, den, ea, rfl, _⟩ := h
    rfl
  · obtain ⟨w, s, code, e0, e1, x, den, ea, rfl, he, d0, d1, hQ⟩ := h
    refine ⟨_, PSs.nox (pss_cons (ps_if (PW.pt (pw_or (PW.pt (pw_and (pt_cmpR op_eq (pv 5) pe_int (nomark _)) (pw_and1 (pt_cmpR op_eq (pv 3) (pe_op op_mul (pe_ix ix_list (pv 2) pe_int (fun _ _ => rfl)) (pv 4)) (nomark _))))) (pw_or1 (pt_cmpR op_eq (pv 0) pe_str (nomark _)))))
        (pss_one (ps_ret (pv 1)))
        pss_nil)
      (pss_cons (ps_if (pt_cmpR op_eq (pv 0) pe_str (nomark _))
        (pss_one (ps_ret (pe_op op_add (pv 1) pe_int)))
        pss_nil)
      (pss_cons (ps_if (pt_cmpR op_eq (pv 0) pe_str (nomark _))
        (pss_one (ps_ret (pe_op op_sub (pe_op op_add (pv 1) pe_int) (pe_op op_mod (pe_callTy call_int1 (by rfl) g_int (by decide +kernel) (pa_cons (pv 1) pa_nil)) pe_int))))
        pss_nil)
      (pss_cons (ps_set (i := 6) sc_law_told.nd rfl (Or.inl rfl) (pe_op op_sub (pe_op op_mul pe_int (pv 3)) (pe_op op_mul (pe_op op_add (pe_ix ix_list (pv 2) pe_int (fun _ _ => rfl)) (pe_ix ix_list (pv 2) pe_int (fun _ _ => rfl))) (pv 4))))
      (pss_cons (ps_if (PW.pt (pw_and (pt_cmpR op_eq (pv 6) pe_int (nomark _)) (pw_and1 (pt_cmpR op_eq (pv 5) pe_int (nomark _)))))
        (pss_one (ps_ret (pe_op op_add (pv 1) (pe_callTy call_int1 (by rfl) g_int (by decide +kernel) (pa_cons (pe_or (pe_cmpR op_eq (pv 0) pe_str (nomark _)) (pe_one (pe_cmpR op_eq (pe_op op_mod (pe_callTy call_int1 (by rfl) g_int (by decide +kernel) (pa_cons (pv 1) pa_nil)) pe_int) pe_int (nomark _)))) pa_nil)))))
        pss_nil)
      (pss_one (ps_ret (pe_op op_add (pv 1) (pe_callTy call_int1 (by rfl) g_int (by decide +kernel) (pa_cons (pe_or (pe_cmpR op_gt (pv 6) pe_int (nomark _)) (pe_one (pe_and (pe_cmpR op_eq (pv 6) pe_int (nomark _)) (pe_one (pe_cmpR op_gt (pv 5) pe_int (nomark _)))))) pa_nil)))))))))), ?_⟩
    have s0 : sideI s = 0 ↔ s = false := by cases s <;> decide
    have sp : 0 < sideI s ↔ s = true := by cases s <;> decide
    refine seq_have1 (fun σ' H' => σ' = [some (.str (wayS w)), some (.int code), some (.ref ea), some (.int x), some (.int den), some (.int (sideI s)), none] ∧ H' = H ∧ ¬ ((s = false ∧ x = e0 * den) ∨ w = .zero)) ?_ fun rest => ?_
    · rintro σ' H' ⟨rfl, rfl, ng⟩
      unfold toldL at hQ
      rw [if_neg ng] at hQ
      refine ⟨_, rfl, rfl, _, rfl, ?_⟩
      rw [show decide (V.str (wayS w) = V.str "out") = decide (w = .out) from way_is w .out]
      by_cases co : w = .out
      · rw [decide_eq_true co]
        rw [if_pos co] at hQ
        exact iteT ⟨_, rfl, _, _, rfl, rfl, hQ⟩
      rw [decide_eq_false co]
      rw [if_neg co] at hQ
      refine iteF ⟨_, rfl, rfl, _, rfl, ?_⟩
      rw [show decide (V.str (wayS w) = V.str "odd") = decide (w = .odd) from way_is w .odd]
      by_cases cd : w = .odd
      · rw [decide_eq_true cd]
        rw [if_pos cd] at hQ
        exact iteT ⟨_, rfl, _, _, rfl, rfl, _, rfl, .inl ⟨_, rfl, _, _, rfl, rfl, (by show (0 : Int) < 2; decide), _, _, rfl, rfl, hQ⟩⟩
      rw [decide_eq_false cd]
      rw [if_neg cd] at hQ
      refine iteF (next_it ?_)
      have last : ¬ (2 * x - (e0 + e1) * den = 0 ∧ s = false) → Q (.int (code + (if 2 * x - (e0 + e1) * den > 0 ∨ (2 * x - (e0 + e1) * den = 0 ∧ s = true) then 1 else 0))) H' := fun n => by
        rw [if_neg n] at hQ
        exact hQ
      have tie : 2 * x - (e0 + e1) * den = 0 ∧ s = false → Q (.int (code + (if w = .away ∨ code % 2 = 1 then 1 else 0))) H' := fun n => by
        rw [if_pos n] at hQ
        exact hQ
      dsimp only
      refine seq_have2 (A := tAsg _ _) (B := tIfS _ _ _) (T := tRet _) (fun σ' H2 => σ' = [some (.str (wayS w)), some (.int code), some (.ref ea), some (.int x), some (.int den), some (.int (sideI s)), some (.int (2 * x - (e0 + e1) * den))] ∧ H2 = H' ∧ ¬ (2 * x - (e0 + e1) * den = 0 ∧ s = false)) ?_ fun rest => ?_
      · rintro σ2 H2 ⟨rfl, rfl, nt⟩
        have l := last nt
        refine ⟨_, rfl, _, rfl, _, _, rfl, rfl, _, rfl, ?_⟩
        by_cases tp : 0 < 2 * x - (e0 + e1) * den
        · rw [decide_eq_true tp]
          rw [if_pos (.inl tp)] at l
          exact iteT (.inr ⟨true, rfl, _, _, rfl, rfl, l⟩)
        · rw [decide_eq_false tp]
          refine iteF ⟨_, rfl, rfl, _, rfl, ?_⟩
          rw [int_is]
          by_cases t0 : 2 * x - (e0 + e1) * den = 0
          · rw [decide_eq_true t0]
            refine iteT ⟨_, rfl, _, _, rfl, rfl, .inr ⟨decide (0 < sideI s), rfl, _, _, rfl, rfl, ?_⟩⟩
            show Q (.int (code + (if decide (0 < sideI s) = true then 1 else 0))) _
            by_cases st : s = true
            · rw [if_pos (.inr ⟨t0, st⟩)] at l
              rw [decide_eq_true (sp.mpr st)]
              exact l
            · rw [if_neg (fun z => z.elim (fun y => tp y) fun y => st y.2)] at l
              rw [decide_eq_false (fun z => st (sp.mp z))]
              exact l
          · rw [decide_eq_false t0]
            rw [if_neg (fun z => z.elim (fun y => tp y) fun y => t0 y.1)] at l
            exact iteF (.inr ⟨false, rfl, _, _, rfl, rfl, l⟩)
      · refine ⟨_, rfl, _, _, rfl, rfl, .inl ⟨by decide, by decide⟩, _, rfl, ea, _, 0, .int e0, rfl, rfl, SqL.of he, rfl, _, rfl, ea, _, 1, .int e1, rfl, rfl, SqL.of he, rfl, _, _, rfl, rfl, _, rfl, _, _, rfl, rfl, .inr ⟨by omega, d1⟩, _, _, rfl, rfl, ?_⟩
        refine ⟨_, rfl, rfl, _, rfl, ?_⟩
        rw [int_is]
        by_cases t0 : 2 * x - (e0 + e1) * den = 0
        · rw [decide_eq_true t0]
          refine iteT ⟨_, rfl, rfl, _, rfl, ?_⟩
          rw [int_is]
          by_cases c0 : s = false
          · rw [decide_eq_true (s0.mpr c0)]
            have l := tie ⟨t0, c0⟩
            refine iteT ⟨_, rfl, _, rfl, rfl, _, rfl, ?_⟩
            rw [show decide (V.str (wayS w) = V.str "away") = decide (w = .away) from way_is w .away]
            by_cases ca : w = .away
            · rw [decide_eq_true ca]
              rw [if_pos (.inl ca)] at l
              exact iteT (.inr ⟨true, rfl, _, _, rfl, rfl, l⟩)
            · rw [decide_eq_false ca]
              refine iteF ⟨_, rfl, .inl ⟨_, rfl, _, _, rfl, rfl, (by show (0 : Int) < 2; decide), rfl, ?_⟩⟩
              rw [int_is]
              by_cases co2 : code % 2 = 1
              · rw [decide_eq_true co2]
                rw [if_pos (.inr co2)] at l
                exact .inr ⟨true, rfl, _, _, rfl, rfl, l⟩
              · rw [decide_eq_false co2]
                rw [if_neg (fun z => z.elim ca co2)] at l
                exact .inr ⟨false, rfl, _, _, rfl, rfl, l⟩
          · rw [decide_eq_false (fun z => c0 (s0.mp z))]
            exact iteF (rest _ _ ⟨rfl, rfl, fun z => c0 z.2⟩)
        · rw [decide_eq_false t0]
          exact iteF (iteF (rest _ _ ⟨rfl, rfl, fun z => t0 z.1⟩))
    · have zero : ∀ {B C : Prop}, (w = .zero → B) → (w ≠ .zero → C) → if decide (V.str (wayS w) = V.str "zero") = true then B else C := fun {B C} hb hc => by
        rw [show decide (V.str (wayS w) = V.str "zero") = decide (w = .zero) from way_is w .zero]
        by_cases cw : w = .zero
        · rw [decide_eq_true cw]; exact iteT (hb cw)
        · rw [decide_eq_false cw]; exact iteF (hc cw)
      have ret : (s = false ∧ x = e0 * den) ∨ w = .zero → Q (.int code) H := fun z => by
        unfold toldL at hQ
        rw [if_pos z] at hQ
        exact hQ
      refine ⟨_, rfl, rfl, _, rfl, ?_⟩
      rw [int_is]
      by_cases c0 : s = false
      · rw [decide_eq_true (s0.mpr c0)]
        refine iteT ⟨_, rfl, _, rfl, ea, _, 0, .int e0, rfl, rfl, SqL.of he, rfl, _, rfl, _, _, rfl, rfl, .inr ⟨by omega, d1⟩, rfl, _, rfl, ?_⟩
        rw [int_is]
        by_cases c1 : x = e0 * den
        · rw [decide_eq_true c1]
          exact iteT (iteT ⟨_, rfl, ret (.inl ⟨c0, c1⟩)⟩)
        · rw [decide_eq_false c1]
          refine iteF ⟨_, rfl, rfl, _, rfl, ?_⟩
          exact zero (fun cw => ⟨_, rfl, ret (.inr cw)⟩) fun cw => rest _ _ ⟨rfl, rfl, fun z => z.elim (fun y => c1 y.2) cw⟩
      · rw [decide_eq_false (fun z => c0 (s0.mp z))]
        refine iteF (iteF ⟨_, rfl, rfl, _, rfl, ?_⟩)
        exact zero (fun cw => ⟨_, rfl, ret (.inr cw)⟩) fun cw => rest _ _ ⟨rfl, rfl, fun z => z.elim (fun y => c0 y.1) cw⟩
end
end K45
/-! ## W21 -/
namespace K45
open PySem PySem.Spec PyProof.Rows L2
/-- a tuple stands apart from the deck -/
theorem DkAt.tup_ne {H : Hp} {a c p : Addr} {cells : List Int} {k : Int} {xs : List V} (d : DkAt H a c cells k) (h : H p = some (.tup xs)) : p ≠ a ∧ p ≠ c :=
  ⟨ne_of h d.1 (fun z => nomatch z), ne_of h d.2.1 (fun z => nomatch z)⟩
/-- a tuple that stands is kept by what keeps all but the deck -/
theorem DkAt.keep {H H' : Hp} {a c p : Addr} {cells : List Int} {k : Int} {xs : List V} (d : DkAt H a c cells k) (s : SameD a c H H') (h : H p = some (.tup xs)) : H' p = some (.tup xs) :=
  s _ _ (d.tup_ne h).1 (d.tup_ne h).2 h
def spForm : Sp := fun vs H Q _ => ∃ (a c : Addr) (cells : List Int) (k : Int), vs = [.ref a] ∧ DkAt H a c cells k ∧ k ≤ 90000 ∧ ∀ H' cells' p f, SameD a c H H' → DkAt H' a c cells' (k + 3) → FoAt H' p f → FoB f → Q (.ref p) H'
def spPower : Sp := fun vs H Q _ => ∃ (a c : Addr) (cells : List Int) (k : Int) (fa : Addr) (f : Fo), vs = [.ref a, .ref fa] ∧ DkAt H a c cells k ∧ k ≤ 90000 ∧ FoAt H fa f ∧ FoB f ∧ ∀ H' cells' P, SameD a c H H' → DkAt H' a c cells' (k + 2) → -5 ≤ P → P ≤ 3 → Q (.int P) H'
def spRow : Sp := fun vs H Q _ => ∃ (a c : Addr) (cells : List Int) (k P : Int) (b : Nat), vs = [.ref a, .int P, .int (b : Int)] ∧ DkAt H a c cells k ∧ k ≤ 90000 ∧ -5 ≤ P ∧ P ≤ 3 ∧ 1 ≤ b ∧ b ≤ 12 ∧
  ∀ H' cells' k' p r, SameD a c H H' → DkAt H' a c cells' k' → k' ≤ k + 4 → RowAt H' p r → RowB r → Q (.ref p) H'
section
variable {P : Program} {w : World} {K : PySem.W.Frag} {mg : Str → Option Value} {base : Heap}
theorem sc_law_form : FnScope ["_law_deck_here", "_law_low"] ["_law_deck_here"] (defScope s_law_form) := ⟨rfl, rfl, rfl, by decide +kernel, rfl, by decide +kernel, by decide +kernel⟩
theorem cl_law_form (D : DefAt K mg "_law_form" s_law_form) (c_law_draw : Cl P w K mg base CX0 1 "_law_draw" spDraw) : Cl P w K mg base CX0 2 "_law_form" spForm := by
  refine cl_of D (fun _ _ _ _ _ _ us hl => match us, hl with | [_], _ => rfl) sc_law_form (fun vs H Q E h => ?_) (fun fp cdv A outer s H vs Q E hr h => ?_)
  · obtain ⟨a, c, cells, k, rfl, _⟩ := h
    rfl
  · obtain ⟨a, c, cells, k, rfl, dk, hk, hQ⟩ := h
    refine ⟨_, PSs.nox (pss_cons (ps_set (i := 1) sc_law_form.nd rfl (Or.inl rfl) (pe_op op_sub (pe_cl c_law_draw hr (by decide) pass0 (pa_cons (pv 0) (pa_cons pe_int pa_nil))) pe_int))
      (pss_one (ps_ret (pe_tup (pa_cons (pe_op op_add pe_int (pe_cl c_law_draw hr (by decide) pass0 (pa_cons (pv 0) (pa_cons pe_int pa_nil)))) (pa_cons (pv 1) (pa_cons (pe_op op_add (pv 1) (pe_cl c_law_draw hr (by decide) pass0 (pa_cons (pv 0) (pa_cons pe_int pa_nil)))) pa_nil))))))), ?_⟩
    refine ⟨_, rfl, a, c, cells, k, 13, rfl, dk, by omega, by decide, by decide, fun H1 cells1 v1 s1 d1 v10 v11 => ⟨_, _, rfl, rfl, ?_⟩⟩
    refine ⟨_, rfl, a, c, cells1, k + 1, 5, rfl, d1, by omega, by decide, by decide, fun H2 cells2 v2 s2 d2 v20 v21 => ⟨_, _, rfl, rfl, ?_⟩⟩
    refine ⟨_, rfl, _, rfl, _, rfl, a, c, cells2, k + 1 + 1, 9, rfl, d2, by omega, by decide, by decide, fun H3 cells3 v3 s3 d3 v30 v31 => ⟨_, _, rfl, rfl, ?_⟩⟩
    refine ⟨(by show 3 ≤ sizeLine; decide), fun p hp => ?_⟩
    have kp := same_of_upd (o := .tup [.int (1 + v2), .int (v1 - 8), .int (v1 - 8 + v3)]) hp
    refine hQ _ cells3 p ⟨(1 + v2).toNat, v1 - 8, v3.toNat⟩ (((s1.trans s2).trans s3).trans (Same.d kp)) ?_ ?_ ⟨by show 1 ≤ (1 + v2).toNat; omega, by show (1 + v2).toNat ≤ 5; omega, by show -8 ≤ v1 - 8; omega, by show v1 - 8 ≤ 4; omega, by show v3.toNat ≤ 8; omega⟩
    · have := d3.same kp
      rw [show k + 3 = k + 1 + 1 + 1 by omega]
      exact this
    · have e1 : (((1 + v2).toNat : Nat) : Int) = 1 + v2 := by omega
      have e2 : ((v3.toNat : Nat) : Int) = v3 := by omega
      show upd _ _ _ _ = some (.tup [.int (((1 + v2).toNat : Nat) : Int), .int (v1 - 8), .int (v1 - 8 + ((v3.toNat : Nat) : Int))])
      rw [e1, e2]
      exact upd_same
theorem sc_law_row : FnScope ["_law_deck_here", "_law_power_here", "_law_bits", "_law_factor", "_law_shift", "_law_height", "_law_way"] ["_law_deck_here", "_law_power_here", "_law_bits"] (defScope s_law_row) := ⟨rfl, rfl, rfl, by decide +kernel, rfl, by decide +kernel, by decide +kernel⟩
theorem cl_law_row (D : DefAt K mg "_law_row" s_law_row) (g_max : mg "max" = none) (c_law_draw : Cl P w K mg base CX0 1 "_law_draw" spDraw) (c_law_cut : Cl P w K mg base CX0 2 "_law_cut" spCut) : Cl P w K mg base CX0 3 "_law_row" spRow := by
  refine cl_of D (fun _ _ _ _ _ _ us hl => match us, hl with | [_, _, _], _ => rfl) sc_law_row (fun vs H Q E h => ?_) (fun fp cdv A outer s H vs Q E hr h => ?_)
  · obtain ⟨a, c, cells, k, p, b, rfl, _⟩ := h
    rfl
  · obtain ⟨a, c, cells, k, p, b, rfl, dk, hk, p0, p1, b0, b1, hQ⟩ := h
    refine ⟨_, PSs.nox (pss_cons (ps_asg (pe_cl c_law_cut hr (by decide) pass0 (pa_cons (pv 1) (pa_cons (pv 2) pa_nil))) (pg_tup rfl (pgs_cons (pg_name (i := 1) sc_law_row.nd rfl (Or.inl rfl)) (pgs_cons (pg_name (i := 3) sc_law_row.nd rfl (Or.inl rfl)) (pgs_cons (pg_name (i := 4) sc_law_row.nd rfl (Or.inl rfl)) (pgs_cons (pg_name (i := 5) sc_law_row.nd rfl (Or.inl rfl)) pgs_nil))))))
      (pss_cons (ps_set (i := 6) sc_law_row.nd rfl (Or.inl rfl) (pe_cl c_law_draw hr (by decide) pass0 (pa_cons (pv 0) (pa_cons pe_int pa_nil))))
      (pss_cons (ps_if (pt_cmpR op_lt (pv 6) pe_int (nomark _))
        (pss_one (ps_ret (pe_tup (pa_cons (pv 1) (pa_cons (pv 3) (pa_cons (pv 4) (pa_cons (pv 5) pa_nil)))))))
        pss_nil)
      (pss_cons (ps_if (pt_cmpR op_eq (pv 6) pe_int (nomark _))
        (pss_one (ps_ret (pe_tup (pa_cons (pv 1) (pa_cons (pe_callB (call_max2 rfl) (by rfl) g_max (by decide +kernel) (pa_cons pe_int (pa_cons (pe_op op_sub (pv 3) (pe_cl c_law_draw hr (by decide) pass0 (pa_cons (pv 0) (pa_cons pe_int pa_nil)))) pa_nil))) (pa_cons (pv 4) (pa_cons (pe_cl c_law_draw hr (by decide) pass0 (pa_cons (pv 0) (pa_cons pe_int pa_nil))) pa_nil)))))))
        pss_nil)
      (pss_cons (ps_if (pt_cmpR op_eq (pv 6) pe_int (nomark _))
        (pss_one (ps_ret (pe_tup (pa_cons (pv 1) (pa_cons (pe_callB (call_max2 rfl) (by rfl) g_max (by decide +kernel) (pa_cons pe_int (pa_cons (pe_op op_sub (pe_op op_add (pv 3) (pe_cl c_law_draw hr (by decide) pass0 (pa_cons (pv 0) (pa_cons pe_int pa_nil)))) pe_int) pa_nil))) (pa_cons (pv 4) (pa_cons (pe_cl c_law_draw hr (by decide) pass0 (pa_cons (pv 0) (pa_cons pe_int pa_nil))) pa_nil)))))))
        pss_nil)
      (pss_one (ps_ret (pe_tup (pa_cons (pv 1) (pa_cons (pe_op op_add pe_int (pe_cl c_law_draw hr (by decide) pass0 (pa_cons (pv 0) (pa_cons pe_int pa_nil)))) (pa_cons (pe_op op_sub (pe_op op_add (pv 4) (pe_cl c_law_draw hr (by decide) pass0 (pa_cons (pv 0) (pa_cons pe_int pa_nil)))) pe_int) (pa_cons (pe_cl c_law_draw hr (by decide) pass0 (pa_cons (pv 0) (pa_cons pe_int pa_nil))) pa_nil)))))))))))), ?_⟩
    refine ⟨_, rfl, _, rfl, p, b, rfl, p0, p1, b0, b1, fun H1 q g sh h s1 hq g0 g1 sh0 sh1 h0 h1 => ?_⟩
    refine ⟨q, _, rfl, SqT.of hq, rfl, _, _, rfl, _, _, rfl, _, _, rfl, _, _, rfl, rfl, ?_⟩
    refine ⟨_, rfl, a, c, cells, k, 5, rfl, dk.same s1, by omega, by decide, by decide, fun H2 cells2 v s2 d2 v0 v1 => ?_⟩
    have s12 : SameD a c H H2 := (Same.d s1).trans s2
    -- the row, laid
    have fin : ∀ (H3 : Hp) (cells3 : List Int) (k3 g' sh' h' : Int) (q' : Addr), SameD a c H H3 → DkAt H3 a c cells3 k3 → k3 ≤ k + 4 → H3 q' = none → 1 ≤ g' → g' < 2 ^ 14 → -50 ≤ sh' → sh' ≤ 30 → 0 ≤ h' → h' ≤ 3 → Q (.ref q') (upd H3 q' (.tup [.int p, .int g', .int sh', .int h'])) :=
      fun H3 cells3 k3 g' sh' h' q' s3 d3 k3' n3 z1 z2 z3 z4 z5 z6 => hQ _ cells3 k3 q' ⟨p, g', sh', h'⟩ (s3.trans (Same.d (same_of_upd n3))) (d3.same (same_of_upd n3)) k3' upd_same ⟨z1, z2, z3, z4, z5, z6, p0, by show p ≤ 5; omega⟩
    refine ⟨_, rfl, _, _, rfl, rfl, _, rfl, ?_⟩
    by_cases c1 : v < 2
    · rw [decide_eq_true c1]
      refine iteT ⟨_, rfl, _, rfl, _, rfl, _, rfl, (by show 4 ≤ sizeLine; decide), fun q' n => ?_⟩
      exact fin H2 cells2 (k + 1) g sh h q' s12 d2 (by omega) n g0 (by omega) (by omega) (by omega) h0 (by omega)
    rw [decide_eq_false c1]
    refine iteF ⟨_, rfl, rfl, _, rfl, ?_⟩
    rw [int_is]
    by_cases c2 : v = 2
    · rw [decide_eq_true c2]
      refine iteT ⟨_, rfl, _, rfl, _, rfl, a, c, cells2, k + 1, 3, rfl, d2, by omega, by decide, by decide, fun H3 cells3 v3 s3 d3 v30 v31 => ?_⟩
      refine ⟨_, _, rfl, rfl, _, _, rfl, _, rfl, _, rfl, a, c, cells3, k + 1 + 1, 4, rfl, d3, by omega, by decide, by decide, fun H4 cells4 v4 s4 d4 v40 v41 => ⟨(by show 4 ≤ sizeLine; decide), fun q' n => ?_⟩⟩
      refine fin H4 cells4 (k + 1 + 1 + 1) _ sh v4 q' ((s12.trans s3).trans s4) d4 (by omega) n ?_ ?_ (by omega) (by omega) v40 (by omega)
      · split <;> omega
      · split <;> omega
    rw [decide_eq_false c2]
    refine iteF ⟨_, rfl, rfl, _, rfl, ?_⟩
    rw [int_is]
    by_cases c3 : v = 3
    · rw [decide_eq_true c3]
      refine iteT ⟨_, rfl, _, rfl, _, rfl, a, c, cells2, k + 1, 5, rfl, d2, by omega, by decide, by decide, fun H3 cells3 v3 s3 d3 v30 v31 => ?_⟩
      refine ⟨_, _, rfl, rfl, _, _, rfl, rfl, _, _, rfl, _, rfl, _, rfl, a, c, cells3, k + 1 + 1, 4, rfl, d3, by omega, by decide, by decide, fun H4 cells4 v4 s4 d4 v40 v41 => ⟨(by show 4 ≤ sizeLine; decide), fun q' n => ?_⟩⟩
      refine fin H4 cells4 (k + 1 + 1 + 1) _ sh v4 q' ((s12.trans s3).trans s4) d4 (by omega) n ?_ ?_ (by omega) (by omega) v40 (by omega)
      · split <;> omega
      · split <;> omega
    rw [decide_eq_false c3]
    refine iteF ⟨_, rfl, _, rfl, a, c, cells2, k + 1, 20, rfl, d2, by omega, by decide, by decide, fun H3 cells3 v3 s3 d3 v30 v31 => ?_⟩
    refine ⟨_, _, rfl, rfl, _, rfl, _, rfl, a, c, cells3, k + 1 + 1, 41, rfl, d3, by omega, by decide, by decide, fun H4 cells4 v4 s4 d4 v40 v41 => ?_⟩
    refine ⟨_, _, rfl, rfl, _, _, rfl, rfl, _, rfl, a, c, cells4, k + 1 + 1 + 1, 4, rfl, d4, by omega, by decide, by decide, fun H5 cells5 v5 s5 d5 v50 v51 => ⟨(by show 4 ≤ sizeLine; decide), fun q' n => ?_⟩⟩
    exact fin H5 cells5 (k + 1 + 1 + 1 + 1) (1 + v3) (sh + v4 - 20) v5 q' (((s12.trans s3).trans s4).trans s5) d5 (by omega) n (by omega) (by omega) (by omega) (by omega) v50 (by omega)
theorem sc_law_power : FnScope ["_law_deck_here", "_law_form_here", "_law_p", "_law_low", "_law_high"] ["_law_deck_here", "_law_form_here"] (defScope s_law_power) := ⟨rfl, rfl, rfl, by decide +kernel, rfl, by decide +kernel, by decide +kernel⟩
theorem cl_law_power (D : DefAt K mg "_law_power" s_law_power) (c_law_draw : Cl P w K mg base CX0 1 "_law_draw" spDraw) (c_law_pick : Cl P w K mg base CX0 2 "_law_pick" spPick) : Cl P w K mg base CX0 3 "_law_power" spPower := by
  refine cl_of D (fun _ _ _ _ _ _ us hl => match us, hl with | [_, _], _ => rfl) sc_law_power (fun vs H Q E h => ?_) (fun fp cdv A outer s H vs Q E hr h => ?_)
  · obtain ⟨a, c, cells, k, fa, f, rfl, _⟩ := h
    rfl
  · obtain ⟨a, c, cells, k, fa, f, rfl, dk, hk, hf, bf, hQ⟩ := h
    obtain ⟨f1, f5, l0, l1, j8⟩ := bf
    have hh : f.high = f.low + f.J := rfl
    refine ⟨_, PSs.nox (pss_cons (ps_asg (pv 1) (pg_tup rfl (pgs_cons (pg_name (i := 2) sc_law_power.nd rfl (Or.inl rfl)) (pgs_cons (pg_name (i := 3) sc_law_power.nd rfl (Or.inl rfl)) (pgs_cons (pg_name (i := 4) sc_law_power.nd rfl (Or.inl rfl)) pgs_nil)))))
      (pss_one (ps_ret (pe_cl c_law_pick hr (by decide) pass0 (pa_cons (pv 0) (pa_cons (pe_lst (pa_cons pe_int (pa_cons pe_int (pa_cons (pe_un un_neg pe_int) (pa_cons (pe_un un_neg pe_int) (pa_cons (pe_un un_neg pe_int) (pa_cons (pe_op op_fdiv (pe_op op_mul (pv 4) pe_int) pe_int) (pa_cons (pe_op op_sub (pe_op op_fdiv (pe_op op_mul (pv 3) pe_int) pe_int) pe_int) (pa_cons (pe_op op_sub (pe_cl c_law_draw hr (by decide) pass0 (pa_cons (pv 0) (pa_cons pe_int pa_nil))) pe_int) pa_nil))))))))) pa_nil)))))), ?_⟩
    refine ⟨_, rfl, fa, _, rfl, SqT.of hf, rfl, _, _, rfl, _, _, rfl, _, _, rfl, rfl, ?_⟩
    refine ⟨_, rfl, _, rfl, _, rfl, _, rfl, _, rfl, _, _, rfl, rfl, .inl ⟨by omega, by omega⟩, _, _, rfl, rfl, ⟨by decide, by decide⟩, ?_⟩
    refine ⟨_, rfl, _, _, rfl, rfl, .inl ⟨by omega, by omega⟩, _, _, rfl, rfl, ⟨by decide, by decide⟩, _, _, rfl, rfl, ?_⟩
    refine ⟨_, rfl, a, c, cells, k, 9, rfl, dk, by omega, by decide, by decide, fun H1 cells1 v s1 d1 v0 v1 => ⟨_, _, rfl, rfl, (by show 8 ≤ sizeLine; decide), fun sa hs => ?_⟩⟩
    have d2 := d1.same (same_of_upd (o := .lst [.int 0, .int 1, .int (-1), .int (-2), .int (-3), .int (f.high * 3 / 10), .int (f.low * 3 / 10 - 2), .int (v - 5)]) hs)
    refine ⟨a, c, cells1, k + 1, sa, _, rfl, d2, by omega, upd_same, fun z => ne_of_none d1.1 hs z.symm, fun z => ne_of_none d1.2.1 hs z.symm, Nat.le_of_ble_eq_true rfl, Nat.le_of_ble_eq_true rfl, fun H' cells' x s3 d3 hx => ?_⟩
    · have sk : SameD a c H H' := (s1.trans (Same.d (same_of_upd hs))).trans s3
      have d4 : DkAt H' a c cells' (k + 2) := by rw [show k + 2 = k + 1 + 1 by omega]; exact d3
      simp only [List.mem_cons, List.not_mem_nil, or_false] at hx
      rcases hx with rfl | rfl | rfl | rfl | rfl | rfl | rfl | rfl
      all_goals exact hQ H' cells' _ sk d4 (by omega) (by omega)
end
end K45
/-! ## W22 -/
namespace K45
open PySem PySem.Spec PyProof.Rows L2
/-- the values of the first n codes -/
def valsL (p n : Nat) : List Int := (List.range n).map fun (i : Nat) => val p (i : Int)
theorem valsL_more (p n m : Nat) : valsL p (n + m) = valsL p n ++ (List.range m).map fun (i : Nat) => val p ((n + i : Nat) : Int) := by
  unfold valsL
  rw [List.range_add, List.map_append, List.map_map]
  rfl
def halfN (p : Nat) : Nat := 2 ^ (p - 1)
theorem halfN_int (p : Nat) : ((halfN p : Nat) : Int) = half p := by
  unfold halfN half
  simp
def spValues : Sp := fun vs H Q _ => ∃ (fa : Addr) (f : Fo), vs = [.ref fa] ∧ FoAt H fa f ∧ FoB f ∧ ∀ H' q, Same H H' → H' q = some (.lst ((valsL f.p ((f.J + 2) * halfN f.p + 1)).map V.int)) → Q (.ref q) H'
section
variable {P : Program} {w : World} {K : PySem.W.Frag} {mg : Str → Option Value} {base : Heap}
theorem sc_law_values : FnScope ["_law_form_here", "_law_p", "_law_low", "_law_high", "_law_found", "_law_j", "_law_m"] ["_law_form_here"] (defScope s_law_values) := ⟨rfl, rfl, rfl, by decide +kernel, rfl, by decide +kernel, by decide +kernel⟩
theorem cl_law_values (D : DefAt K mg "_law_values" s_law_values) (g_list : mg "list" = none) (g_range : mg "range" = none) : Cl P w K mg base CX0 1 "_law_values" spValues := by
  refine cl_of D (fun _ _ _ _ _ _ us hl => match us, hl with | [_], _ => rfl) sc_law_values (fun vs H Q E h => ?_) (fun fp cdv A outer s H vs Q E hr h => ?_)
  · obtain ⟨fa, f, rfl, _⟩ := h
    rfl
  · obtain ⟨fa, f, rfl, hf, bf, hQ⟩ := h
    refine ⟨_, PSs.nox (pss_cons (ps_asg (pv 0) (pg_tup rfl (pgs_cons (pg_name (i := 1) sc_law_values.nd rfl (Or.inl rfl)) (pgs_cons (pg_name (i := 2) sc_law_values.nd rfl (Or.inl rfl)) (pgs_cons (pg_name (i := 3) sc_law_values.nd rfl (Or.inl rfl)) pgs_nil)))))
      (pss_cons (ps_set (i := 4) sc_law_values.nd rfl (Or.inl rfl) (pe_listRg rfl (by rfl) g_list (prg_1 (by rfl) g_range (pe_op op_shl pe_int (pv 1)))))
      (pss_cons (ps_for PassesOwn.never rfl (pi_range2 (by rfl) g_range (pa_cons pe_int (pa_cons (pe_op op_add (pe_op op_sub (pv 3) (pv 2)) pe_int) pa_nil))) (pg_name (i := 5) sc_law_values.nd rfl (Or.inr rfl))
        (pss_one (ps_set (i := 4) sc_law_values.nd rfl (Or.inl rfl) (pe_op op_cat (pv 4) (pe_lc (own := [("_law_m", 6)]) rfl sc_law_values.nd (pi_range2 (by rfl) g_range (pa_cons (pe_op op_shl pe_int (pe_op op_sub (pv 1) pe_int)) (pa_cons (pe_op op_shl pe_int (pv 1)) pa_nil))) (blkOk_by (N := ["_law_form_here", "_law_p", "_law_low", "_law_high", "_law_found", "_law_j", "_law_m"]) (sc := defScope s_law_values) (by decide +kernel)) (fun _ _ _ _ _ => by exact (pg_name (i := 6) sc_law_values.nd rfl (Or.inl rfl))) (fun _ _ _ _ _ => pts_nil) (fun _ _ _ _ _ => (pe_op op_shl (pv 6) (pv 5))))))))
      (pss_one (ps_ret (pe_op op_cat (pv 4) (pe_lst (pa_cons (pe_op op_shl pe_int (pe_op op_sub (pe_op op_add (pv 1) (pv 3)) (pv 2))) pa_nil)))))))), ?_⟩
    obtain ⟨f1, f5, l0, l1, j8⟩ := bf
    have hh : f.high = f.low + f.J := rfl
    have hJ : (f.high - f.low + 1 - 1).toNat = f.J := by omega
    have h2 := halfN_int f.p
    have tw := half_two f1
    have hp := half_pos f.p
    have hN16 : halfN f.p ≤ 16 := by
      unfold halfN
      exact Nat.pow_le_pow_right (by decide) (show f.p - 1 ≤ 4 by omega)
    have e1 : (1 : Int) * 2 ^ ((f.p : Nat) : Int).toNat = 2 * (halfN f.p : Int) := by
      rw [Int.one_mul, Int.toNat_natCast, h2, tw]
    have e2 : (1 : Int) * 2 ^ ((f.p : Int) - 1).toNat = (halfN f.p : Int) := by
      rw [Int.one_mul, show ((f.p : Int) - 1).toNat = f.p - 1 by omega, h2]
      rfl
    generalize hq : halfN f.p = n at h2 hN16 e1 e2 hQ
    refine ⟨_, rfl, fa, _, rfl, SqT.of hf, rfl, _, _, rfl, _, _, rfl, _, _, rfl, rfl, ?_⟩
    refine ⟨_, rfl, _, _, rfl, rfl, ⟨by omega, by omega, by decide⟩, _, rfl, ?_, fun q0 hq0 => ?_⟩
    · show RgOk 0 ((1 : Int) * 2 ^ ((f.p : Nat) : Int).toNat)
      rw [e1]
      exact RgOk.of_le (by omega) (by omega) (by omega) (by omega)
    have base0 : rgV 0 ((1 : Int) * 2 ^ ((f.p : Nat) : Int).toNat) = (valsL f.p (2 * n)).map V.int := by
      rw [e1]
      unfold rgV valsL
      rw [show (2 * (n : Int) - 0).toNat = 2 * n by omega, List.map_map]
      refine List.map_congr_left fun i hi => ?_
      have := List.mem_range.mp hi
      show V.int (0 + (i : Int)) = V.int (val f.p i)
      unfold val
      rw [if_pos (by omega), Int.zero_add]
    refine ⟨_, rfl, _, rfl, _, _, rfl, rfl, _, _, rfl, rfl, _, _, rfl, ⟨by omega, by omega, by omega, by omega⟩, for_range (n := (f.high - f.low + 1 - 1).toNat) (fun i σ H' => ∃ q v, σ = [some (.ref fa), some (.int f.p), some (.int f.low), some (.int f.high), some (.ref q), v, none] ∧ Same H H' ∧ H' q = some (.lst ((valsL f.p ((i + 2) * n)).map V.int))) ⟨q0, none, rfl, same_of_upd hq0, ?_⟩ ?_ ?_⟩
    · rw [upd_same]
      show some (HO.lst (rgV 0 ((1 : Int) * 2 ^ ((f.p : Nat) : Int).toNat))) = _
      rw [base0, Nat.zero_add]
    · rintro i σ H1 hi ⟨q, v, rfl, s1, hq1⟩
      have hi8 : i < f.J := by omega
      have hlen : ((i + 1 + 2) * n) = (i + 2) * n + n := by
        rw [show i + 1 + 2 = i + 2 + 1 by omega, Nat.succ_mul]
      have big : (i + 2) * n ≤ 10 * 16 := Nat.mul_le_mul (by omega) hN16
      refine ⟨_, rfl, _, rfl, _, _, rfl, rfl, _, _, rfl, rfl, ⟨by omega, by omega, by decide⟩, _, rfl, _, _, rfl, rfl, ⟨by omega, by omega, by decide⟩, _, _, rfl, ?_, fun D hD => ?_⟩
      · show -(2 ^ 62) ≤ (1 : Int) * 2 ^ ((f.p : Int) - 1).toNat ∧ (1 : Int) * 2 ^ ((f.p : Int) - 1).toNat < 2 ^ 62 ∧ -(2 ^ 62) ≤ (1 : Int) * 2 ^ ((f.p : Nat) : Int).toNat ∧ (1 : Int) * 2 ^ ((f.p : Nat) : Int).toNat < 2 ^ 62
        rw [e1, e2]
        exact ⟨by omega, by omega, by omega, by omega⟩
      have hn : ((1 : Int) * 2 ^ ((f.p : Nat) : Int).toNat - (1 : Int) * 2 ^ ((f.p : Int) - 1).toNat).toNat = n := by
        rw [e1, e2]; omega
      refine lc_range (n := ((1 : Int) * 2 ^ ((f.p : Nat) : Int).toNat - (1 : Int) * 2 ^ ((f.p : Int) - 1).toNat).toNat) (fun m H2 => Same H1 H2 ∧ H2 D = some (.lst (((List.range m).map fun (t : Nat) => val f.p (((i + 2) * n + t : Nat) : Int)).map V.int)))
        ⟨same_of_upd hD, upd_same⟩ (fun m H2 hm ⟨s2, l2⟩ => ?_) (fun H2 ⟨s2, l2⟩ => ?_)
      · refine ⟨rfl, ?_⟩
        refine yes_it (iteT ⟨_, rfl, _, rfl, _, _, rfl, rfl, ?_, _, l2, ?_, same_up s2 hD, ?_⟩)
        · show CPow ((1 : Int) * 2 ^ ((f.p : Int) - 1).toNat + (m : Int)) (1 + (i : Int))
          rw [e2]
          rw [hn] at hm
          exact ⟨by omega, by omega, by omega⟩
        · rw [List.length_map, List.length_map, List.length_range]
          rw [hn] at hm
          show m < 2 ^ 24
          omega
        · rw [upd_same, List.range_succ, List.map_append, List.map_append]
          have a := val_at f.p (i + 1) (m := half f.p + m) (by omega) (by rw [hn] at hm; omega) (.inr (by omega))
          have e : (((i + 2) * n + m : Nat) : Int) = ((i + 1 : Nat) : Int) * half f.p + (half f.p + m) := by
            rw [← h2, Int.natCast_add, Int.natCast_mul, Int.natCast_add, Int.natCast_add]
            show ((i : Int) + 2) * n + m = ((i : Int) + 1) * n + (n + m)
            rw [Int.add_mul, Int.add_mul]
            omega
          have l : (1 * 2 ^ ((f.p : Int) - 1).toNat + (m : Int)) * 2 ^ (1 + (i : Int)).toNat = val f.p (((i + 2) * n + m : Nat) : Int) := by
            rw [e, a, e2, h2, show (1 + (i : Int)).toNat = i + 1 by omega]
          show some (HO.lst (_ ++ [V.int ((1 * 2 ^ ((f.p : Int) - 1).toNat + (m : Int)) * 2 ^ (1 + (i : Int)).toNat)])) = _
          rw [l]
          rfl
      · rw [hn] at l2
        refine ⟨q, D, _, _, rfl, rfl, s2 _ _ hq1, l2, ?_, fun z hz => ⟨z, _, rfl, (s1.trans s2).trans (same_of_upd hz), ?_⟩⟩
        · unfold valsL
          rw [List.length_map, List.length_map, List.length_map, List.length_map, List.length_range, List.length_range]
          show (i + 2) * n + n ≤ 2 ^ 24
          omega
        · rw [upd_same, hlen, valsL_more, List.map_append]
    · rintro σ H1 ⟨q, v, rfl, s1, hq1⟩
      rw [hJ] at hq1
      refine ⟨_, rfl, _, rfl, _, rfl, _, _, rfl, rfl, _, rfl, _, _, rfl, rfl, _, _, rfl, rfl, ⟨by omega, by omega, by decide⟩, (by show 1 ≤ sizeLine; decide), fun b hb => ?_⟩
      refine ⟨q, b, _, _, rfl, rfl, (same_of_upd hb) _ _ hq1, upd_same, ?_, fun z hz => ?_⟩
      · rw [List.length_map]
        unfold valsL
        rw [List.length_map, List.length_range]
        show (f.J + 2) * n + 1 ≤ 2 ^ 24
        have := Nat.mul_le_mul (show f.J + 2 ≤ 10 by omega) hN16
        omega
      · refine hQ _ z ((s1.trans (same_of_upd hb)).trans (same_of_upd hz)) ?_
        rw [upd_same, valsL_more, List.map_append]
        have lastv : val f.p (((f.J + 2) * n + 0 : Nat) : Int) = 1 * 2 ^ ((f.p : Int) + f.high - f.low).toNat := by
          have a := val_at f.p f.J (m := 2 * half f.p) (by omega) (Int.le_refl _) (.inr (by omega))
          have e : (((f.J + 2) * n + 0 : Nat) : Int) = (f.J : Int) * half f.p + 2 * half f.p := by
            rw [Nat.add_zero, Int.natCast_mul, Int.natCast_add, h2, Int.add_mul]
            rfl
          rw [e, a, tw, Int.one_mul, show ((f.p : Int) + f.high - f.low).toNat = f.p + f.J by omega, p2add]
        show some (HO.lst (_ ++ [V.int (1 * 2 ^ ((f.p : Int) + f.high - f.low).toNat)])) = some (HO.lst (_ ++ [V.int (val f.p (((f.J + 2) * n + 0 : Nat) : Int))]))
        rw [lastv]
end
end K45
/-! ## W23 -/
namespace K45
open PySem PySem.Spec PyProof.Rows L2
theorem step_size {A : Int} {n : Nat} (h0 : 0 < A) (hn : 1 ≤ n) : Builtin.Range.rangeSize A (A * (n : Int) + 1) A = n := by
  have m : A * 1 ≤ A * (n : Int) := Int.mul_le_mul_of_nonneg_left (by omega) (by omega)
  unfold Builtin.Range.rangeSize
  rw [if_pos h0, if_pos (by omega)]
  have e : A * (n : Int) + 1 - A - 1 = A * ((n : Int) - 1) := by rw [Int.mul_sub, Int.mul_one]; omega
  rw [e, Int.mul_ediv_cancel_left _ (by omega)]
  omega
theorem rgC_step {A : Int} {n : Nat} (h0 : 0 < A) (h1 : A < 2 ^ 30) (hn : 1 ≤ n) (hn2 : n ≤ 255) : RgC A (A * (n : Int) + 1) A n := by
  have m : A * (n : Int) ≤ A * 255 := Int.mul_le_mul_of_nonneg_left (by omega) (by omega)
  have m0 : A * 1 ≤ A * (n : Int) := Int.mul_le_mul_of_nonneg_left (by omega) (by omega)
  refine ⟨by omega, by omega, ?_, step_size h0 hn⟩
  unfold Builtin.Range.small
  rw [step_size h0 hn]
  simp only [Builtin.Range.rangeFitsLong, Bool.and_eq_true, Bool.or_eq_true, decide_eq_true_eq, beq_iff_eq, show A > 0 from h0, if_true]
  first | omega | (split <;> omega)
theorem valsL_len (p n : Nat) : ((valsL p n).map V.int).length = n := by
  unfold valsL
  rw [List.length_map, List.length_map, List.length_range]
theorem valsL_at {p n : Nat} {k : Int} (h0 : 0 ≤ k) (h1 : k < n) : atI ((valsL p n).map V.int) k = some (.int (val p k)) := by
  unfold atI ixN
  rw [valsL_len, if_pos h0, if_pos h1]
  show ((valsL p n).map V.int)[k.toNat]? = _
  unfold valsL
  rw [List.getElem?_map, List.getElem?_map, List.getElem?_range (by omega)]
  show some (V.int (val p ((k.toNat : Nat) : Int))) = _
  rw [show ((k.toNat : Nat) : Int) = k by omega]
theorem valsL_two {p n : Nat} {k : Int} (h0 : 0 ≤ k) (h1 : k + 1 < n) : cutV ((valsL p n).map V.int) (some k) (some (k + 2)) = [.int (val p k), .int (val p (k + 1))] := by
  obtain ⟨j, rfl⟩ : ∃ j : Nat, k = j := ⟨k.toNat, by omega⟩
  unfold cutV
  rw [valsL_len, HT.sIx_nat, show ((j : Int) + 2) = ((j + 2 : Nat) : Int) by omega, HT.sIx_nat, show min j n = j by omega, show min (j + 2) n - j = 2 by omega]
  refine List.ext_getElem? fun i => ?_
  match i with
  | 0 =>
    rw [List.getElem?_take, if_pos (by decide), List.getElem?_drop, Nat.add_zero]
    unfold valsL
    rw [List.getElem?_map, List.getElem?_map, List.getElem?_range (by omega)]
    rfl
  | 1 =>
    rw [List.getElem?_take, if_pos (by decide), List.getElem?_drop]
    unfold valsL
    rw [List.getElem?_map, List.getElem?_map, List.getElem?_range (by omega)]
    rfl
  | i + 2 =>
    rw [List.getElem?_take, if_neg (by omega)]
    rfl
def spCodes : Sp := fun vs H Q _ => ∃ (fa sa : Addr) (f : Fo) (w : Way) (l : Lw) (last : Nat) (s : Bool), vs = [.ref fa, .str (wayS w), .ref sa, .int (last : Int), .int (sideI s)] ∧ FoAt H fa f ∧ FoB f ∧ LwAt H sa l ∧ 0 < l.A ∧ l.A < 2 ^ 30 ∧ 0 < l.D ∧ l.D < 2 ^ 62 ∧ 1 ≤ last ∧ last ≤ 255 ∧
  ∀ H' q (ks : List Int), Same H H' → H' q = some (.lst (ks.map V.int)) → ks.length = last → (∀ i : Nat, i < last → ∃ k, IsCode f.p f.J l.D (l.A * ((i : Int) + 1)) k ∧ ks[i]? = some (lawTold f.p w s l.D (l.A * ((i : Int) + 1)) k)) → Q (.ref q) H'
end K45
/-! ## W24 -/
namespace K45
open PySem PySem.Spec PyProof.Rows L2
theorem name_it {i : Nat} {v : V} {σ : L2.St} {H : Hp} {Q : L2.St → Hp → Prop} (h : Q (σ.set i (some v)) H) : gName i v σ H Q := h
theorem name_eq {i : Nat} {v v' : V} {σ : L2.St} {H : Hp} {Q : L2.St → Hp → Prop} (e : v = v') (h : Q (σ.set i (some v')) H) : gName i v σ H Q := by subst e; exact h
section
variable {P : Program} {w : World} {K : PySem.W.Frag} {mg : Str → Option Value} {base : Heap}
theorem sc_law_codes : FnScope ["_law_form_here", "_law_way", "_law_slope_here", "_law_last", "_law_side", "_law_values_here", "_law_found", "_law_code", "_law_num", "_law_den", "_law_x", "_law_at_here"] ["_law_form_here", "_law_way", "_law_slope_here", "_law_last", "_law_side"] (defScope s_law_codes) := ⟨rfl, rfl, rfl, by decide +kernel, rfl, by decide +kernel, by decide +kernel⟩
theorem cl_law_codes (D : DefAt K mg "_law_codes" s_law_codes) (g_len : mg "len" = none) (g_int : mg "int" = none) (g_range : mg "range" = none) (c_law_values : Cl P w K mg base CX0 1 "_law_values" spValues) (c_law_told : Cl P w K mg base CX0 1 "_law_told" spTold) : Cl P w K mg base CX0 2 "_law_codes" spCodes := by
  refine cl_of D (fun _ _ _ _ _ _ us hl => match us, hl with | [_, _, _, _, _], _ => rfl) sc_law_codes (fun vs H Q E h => ?_) (fun fp cdv A outer s H vs Q E hr h => ?_)
  · obtain ⟨fa, sa, f, w, l, last, s, rfl, _⟩ := h
    rfl
  · obtain ⟨fa, sa, f, wy, l, last, sd, rfl, hf, bf, hl, a0, a1, d0, d1, n1, n2, hQ⟩ := h
    refine ⟨_, PSs.nox (pss_cons (ps_set (i := 5) sc_law_codes.nd rfl (Or.inl rfl) (pe_cl c_law_values hr (by decide) pass0 (pa_cons (pv 0) pa_nil)))
      (pss_cons (ps_asg (pe_tup (pa_cons (pe_lst pa_nil) (pa_cons pe_int (pa_cons (pe_ix ix_list (pv 2) pe_int (fun _ _ => rfl)) (pa_cons (pe_ix ix_list (pv 2) pe_int (fun _ _ => rfl)) pa_nil))))) (pg_tup rfl (pgs_cons (pg_name (i := 6) sc_law_codes.nd rfl (Or.inl rfl)) (pgs_cons (pg_name (i := 7) sc_law_codes.nd rfl (Or.inl rfl)) (pgs_cons (pg_name (i := 8) sc_law_codes.nd rfl (Or.inl rfl)) (pgs_cons (pg_name (i := 9) sc_law_codes.nd rfl (Or.inl rfl)) pgs_nil))))))
      (pss_cons (ps_for PassesOwn.never rfl (pi_range3 (by rfl) g_range (pa_cons (pv 8) (pa_cons (pe_op op_add (pe_op op_mul (pv 8) (pv 3)) pe_int) (pa_cons (pv 8) pa_nil)))) (pg_name (i := 10) sc_law_codes.nd rfl (Or.inl rfl))
        (pss_cons (ps_while PassesOwn.never (PW.pt (pw_and (pt_cmpR op_lt (pv 7) (pe_op op_sub (pe_callB call_len (by rfl) g_len (by decide +kernel) (pa_cons (pv 5) pa_nil)) pe_int) (nomark _)) (pw_and1 (pt_cmpR op_le (pe_op op_mul (pe_ix ix_list (pv 5) (pe_op op_add (pv 7) pe_int) (fun _ _ => rfl)) (pv 9)) (pv 10) (nomark _)))))
          (pss_one (ps_set (i := 7) sc_law_codes.nd rfl (Or.inl rfl) (pe_op op_add (pv 7) pe_int))))
        (pss_cons (ps_set (i := 11) sc_law_codes.nd rfl (Or.inl rfl) (pe_op op_sub (pv 7) (pe_callTy call_int1 (by rfl) g_int (by decide +kernel) (pa_cons (pe_and (pe_cmpR op_lt (pv 4) pe_int (nomark _)) (pe_one (pe_cmpR op_eq (pv 10) (pe_op op_mul (pe_ix ix_list (pv 5) (pv 7) (fun _ _ => rfl)) (pv 9)) (nomark _)))) pa_nil))))
        (pss_one (ps_expr (pe_bm PySem.F.plainAttrs_list PySem.F.slot_list_append PySem.F.type_list_append mt_append (pv 6) (pa_cons (pe_cl c_law_told hr (by decide) pass0 (pa_cons (pv 1) (pa_cons (pv 11) (pa_cons (pe_slice sl_list (pv 5) (po_some (pv 11)) (po_some (pe_op op_add (pv 11) pe_int))) (pa_cons (pv 10) (pa_cons (pv 9) (pa_cons (pv 4) pa_nil))))))) pa_nil)))))))
      (pss_one (ps_ret (pv 6)))))), ?_⟩
    refine ⟨_, rfl, fa, f, rfl, hf, bf, fun H1 vq s1 hv => ?_⟩
    have hl1 : LwAt H1 sa l := s1 _ _ hl
    refine ⟨(by show 0 ≤ sizeLine; decide), fun fq hfq => ?_⟩
    have sf : Same H1 (upd H1 fq (.lst [])) := same_of_upd hfq
    have lf : upd H1 fq (.lst []) fq = some (.lst (([] : List Int).map V.int)) := upd_same
    generalize upd H1 fq (.lst []) = H2 at sf lf
    refine ⟨_, rfl, sa, _, 0, .int l.A, rfl, rfl, SqL.of (sf _ _ hl1), rfl, _, rfl, sa, _, 1, .int l.D, rfl, rfl, SqL.of (sf _ _ hl1), rfl, (by show 4 ≤ sizeLine; decide), fun tp htp => ?_⟩
    have st := same_of_upd (o := .tup [.ref fq, .int 0, .int l.A, .int l.D]) htp
    refine ⟨tp, _, rfl, SqT.of upd_same, rfl, _, _, rfl, _, _, rfl, _, _, rfl, _, _, rfl, rfl, ?_⟩
    refine ⟨_, rfl, _, rfl, _, rfl, _, _, rfl, rfl, .inl ⟨by omega, by omega⟩, _, _, rfl, rfl, _, rfl, _, _, _, last, rfl, rgC_step a0 a1 n1 n2, ?_⟩
    have s2 : Same H1 (upd H2 tp (.tup [.ref fq, .int 0, .int l.A, .int l.D])) := sf.trans st
    have lf2 := st _ _ lf
    generalize upd H2 tp (.tup [.ref fq, .int 0, .int l.A, .int l.D]) = H3 at s2 lf2
    have hN := halfN_int f.p
    have mN : K45.many f.p f.J = (((f.J + 2) * halfN f.p : Nat) : Int) := by
      unfold K45.many
      rw [← hN, Int.natCast_mul, Int.natCast_add]
      rfl
    have m2 := many_pos f.p f.J
    have hv3 : ∀ {H' : Hp}, Same H1 H' → H' vq = some (.lst ((valsL f.p ((f.J + 2) * halfN f.p + 1)).map V.int)) := fun k => k _ _ hv
    generalize hM : (f.J + 2) * halfN f.p = M at mN hv3
    refine for_rangeC (n := last) (lo := l.A) (c := l.A) (fun i σ H' => ∃ (code : Int) (ks : List Int) (v10 v11 : Option V), σ = [some (.ref fa), some (.str (wayS wy)), some (.ref sa), some (.int (last : Int)), some (.int (sideI sd)), some (.ref vq), some (.ref fq), some (.int code), some (.int l.A), some (.int l.D), v10, v11] ∧
        Same H1 H' ∧ H' fq = some (.lst (ks.map V.int)) ∧ ks.length = i ∧ 0 ≤ code ∧ code ≤ K45.many f.p f.J - 1 ∧ val f.p code * l.D ≤ l.A * (i : Int) ∧ ∀ j : Nat, j < i → ∃ k, IsCode f.p f.J l.D (l.A * ((j : Int) + 1)) k ∧ ks[j]? = some (lawTold f.p wy sd l.D (l.A * ((j : Int) + 1)) k))
      ⟨0, [], none, none, rfl, s2, lf2, rfl, Int.le_refl _, by omega, by rw [val_zero]; simp, fun j hj => absurd hj (Nat.not_lt_zero j)⟩ ?_ ?_
    · rintro i σ H4 hi ⟨code, ks, v10, v11, rfl, s4, l4, n4, c0, c1, cv, told⟩
      have eU : l.A + (i : Int) * l.A = l.A * ((i : Int) + 1) := by rw [Int.mul_add, Int.mul_one, Int.mul_comm (i : Int)]; omega
      have cv1 : val f.p code * l.D ≤ l.A + (i : Int) * l.A := by rw [Int.mul_comm (i : Int)]; omega
      refine name_it ?_
      dsimp only
      refine seq_have1 (A := tWhile _ _) (T := tSeq _ _) (fun σ' H' => ∃ cd : Int, σ' = [some (.ref fa), some (.str (wayS wy)), some (.ref sa), some (.int (last : Int)), some (.int (sideI sd)), some (.ref vq), some (.ref fq), some (.int cd), some (.int l.A), some (.int l.D), some (.int (l.A + (i : Int) * l.A)), v11] ∧ H' = H4 ∧ IsCode f.p f.J l.D (l.A * ((i : Int) + 1)) cd) ?_ fun rest => ?_
      · rintro σ' H' ⟨cd, rfl, rfl, isc⟩
        obtain ⟨k0, k1, k2, k3⟩ := id isc
        have s0 : ¬ sideI sd < 0 := by cases sd <;> decide
        refine ⟨_, rfl, _, rfl, _, _, rfl, rfl, _, rfl, ?_⟩
        rw [decide_eq_false s0]
        refine iteF (.inr ⟨false, rfl, _, _, rfl, rfl, ?_⟩)
        refine name_eq (v' := .int cd) (by show V.int (cd - 0) = _; rw [Int.sub_zero]) ?_
        refine ⟨_, rfl, .inl ⟨rfl, _, SqL.of l4⟩, ?_⟩
        refine ⟨_, rfl, _, rfl, _, rfl, _, rfl, _, rfl, _, rfl, _, _, rfl, rfl, _, rfl, vq, _, rfl, SqL.of (hv3 s4), fun ea hea => ?_⟩
        have e2 := valsL_two (p := f.p) (n := M + 1) (k := cd) k0 (by omega)
        rw [e2]
        have se := same_of_upd (o := .lst [.int (val f.p cd), .int (val f.p (cd + 1))]) hea
        refine ⟨_, rfl, _, rfl, _, rfl, wy, sd, cd, _, _, _, l.D, ea, rfl, upd_same, d0, by omega, ?_⟩
        refine ⟨fq, _, _, rfl, rfl, se _ _ l4, ?_, ?_⟩
        · rw [List.length_map, n4]
          show i < 2 ^ 24
          omega
        · refine ⟨cd, ks ++ [lawTold f.p wy sd l.D (l.A * ((i : Int) + 1)) cd], some _, some _, rfl, same_up (s4.trans se) hfq, ?_, by rw [List.length_append, n4]; rfl, k0, k1, k2, fun j hj => ?_⟩
          · rw [upd_same, List.map_append]
            unfold lawTold
            rw [← eU]
            rfl
          · by_cases hji : j < i
            · obtain ⟨k, q1, q2⟩ := told j hji
              exact ⟨k, q1, by rw [List.getElem?_append_left (by omega)]; exact q2⟩
            · obtain rfl : j = i := by omega
              exact ⟨cd, isc, by rw [List.getElem?_append_right (by omega), n4, Nat.sub_self]; rfl⟩
      refine ⟨fun m σ H' => ∃ code : Int, σ = [some (.ref fa), some (.str (wayS wy)), some (.ref sa), some (.int (last : Int)), some (.int (sideI sd)), some (.ref vq), some (.ref fq), some (.int code), some (.int l.A), some (.int l.D), some (.int (l.A + (i : Int) * l.A)), v11] ∧ H' = H4 ∧ 0 ≤ code ∧ code ≤ K45.many f.p f.J - 1 ∧ val f.p code * l.D ≤ l.A + (i : Int) * l.A ∧ m = (K45.many f.p f.J - code).toNat,
        ⟨_, code, rfl, rfl, c0, c1, cv1, rfl⟩, ?_⟩
      rintro m σ H' ⟨cd, rfl, rfl, e0, e1, ev, rfl⟩
      refine ⟨_, rfl, _, rfl, .ref vq, M + 1, rfl, .inl ⟨_, SqL.of (hv3 s4), (valsL_len _ _).symm⟩, _, _, rfl, rfl, _, _, rfl, rfl, _, rfl, ?_⟩
      have vlen : ((M + 1 : Nat) : Int) - 2 = K45.many f.p f.J - 1 := by omega
      -- the code is found
      have done_ : cd = K45.many f.p f.J - 1 ∨ l.A + (i : Int) * l.A < val f.p (cd + 1) * l.D → IsCode f.p f.J l.D (l.A * ((i : Int) + 1)) cd := fun z => by
        rw [← eU]
        exact ⟨e0, e1, ev, z⟩
      have told_at : atI ((valsL f.p (M + 1)).map V.int) (cd + 1) = some (.int (val f.p (cd + 1))) := valsL_at (by omega) (by omega)
      by_cases c2 : cd < K45.many f.p f.J - 1
      · rw [decide_eq_true (show cd < ((M + 1 : Nat) : Int) - 2 by omega)]
        refine iteT ⟨_, rfl, _, rfl, _, _, rfl, rfl, vq, _, _, _, rfl, rfl, SqL.of (hv3 s4), told_at, _, rfl, _, _, rfl, rfl, .inr ⟨by omega, by omega⟩, _, rfl, _, _, rfl, rfl, _, rfl, ?_⟩
        by_cases c3 : val f.p (cd + 1) * l.D ≤ l.A + (i : Int) * l.A
        · rw [decide_eq_true c3]
          refine iteT ⟨_, fun _ _ h => h, _, rfl, _, _, rfl, rfl, ?_⟩
          exact ⟨_, (show (K45.many f.p f.J - (cd + 1)).toNat < (K45.many f.p f.J - cd).toNat by omega), cd + 1, rfl, rfl, by omega, by omega, c3, rfl⟩
        · rw [decide_eq_false c3]
          exact iteF (rest _ _ ⟨cd, rfl, rfl, done_ (.inr (Int.not_le.mp c3))⟩)
      · rw [decide_eq_false (show ¬ cd < ((M + 1 : Nat) : Int) - 2 by omega)]
        exact iteF (iteF (rest _ _ ⟨cd, rfl, rfl, done_ (.inl (by omega))⟩))
    · rintro σ H4 ⟨code, ks, v10, v11, rfl, s4, l4, n4, c0, c1, cv, told⟩
      exact ⟨_, rfl, hQ H4 fq ks (s1.trans s4) l4 n4 told⟩
end
end K45
/-! ## W25 -/
namespace K45
open PySem PySem.Spec PyProof.Rows L2
/-! ### the law's slopes are small -/
theorem mul_le2 {a b x y : Int} (ha : 0 ≤ a) (hx : a ≤ x) (hb : 0 ≤ b) (hy : b ≤ y) : a * b ≤ x * y :=
  Int.le_trans (Int.mul_le_mul_of_nonneg_right hx hb) (Int.mul_le_mul_of_nonneg_left hy (by omega))
theorem lawVal_b {r : Row} {f : Fo} (br : RowB r) (bf : FoB f) : 0 < (r.lawVal f).A ∧ (r.lawVal f).A < 2 ^ 30 ∧ 0 < (r.lawVal f).D ∧ (r.lawVal f).D < 2 ^ 62 := by
  have t1 := tenP_pos r.P
  have t2 := tenP_pos (-r.P)
  have t3 := tenP_le (z := r.P) br.P5
  have t4 := tenP_le (z := -r.P) (by have := br.P0; omega)
  have q1 := pp_pos f.low
  have q2 := pp_pos (-f.low)
  have q3 : pp f.low ≤ 2 ^ 4 := pp_le (by have := bf.l1; omega)
  have q4 : pp (-f.low) ≤ 2 ^ 8 := pp_le (by have := bf.l0; omega)
  have a1 := mul_le2 (Int.le_of_lt t1) t3 (Int.le_of_lt q2) q4
  have a2 := mul_le2 (Int.le_of_lt t2) t4 (Int.le_of_lt q1) q3
  refine ⟨Int.mul_pos t1 q2, ?_, Int.mul_pos t2 q1, ?_⟩
  · show tenP r.P * pp (-f.low) < _
    omega
  · show tenP (-r.P) * pp f.low < _
    omega
theorem lawRun_b {r : Row} {f : Fo} (br : RowB r) (bf : FoB f) (so : r.Sound) : 0 < (r.lawRun f).A ∧ (r.lawRun f).A < 2 ^ 30 ∧ 0 < (r.lawRun f).D ∧ (r.lawRun f).D < 2 ^ 62 := by
  have g1 := br.g1
  have g2 := br.g2
  have l0 := bf.l0
  have l1 := bf.l1
  have s0 := br.s0
  have d1 : pp (f.low - r.s) ≤ 2 ^ 54 := pp_le (by omega)
  refine ⟨Int.mul_pos (by omega) (pp_pos _), ?_, pp_pos _, ?_⟩
  · show r.g * pp (r.s - f.low) < _
    by_cases hs : 0 ≤ r.s
    · have lo : r.g * pp r.s * tenP (-r.P) ≤ tenP r.P * pp (-r.s) := Int.not_lt.mp so.lo
      have e1 : pp (-r.s) = 1 := pp_neg (by omega)
      have t3 := tenP_le (z := r.P) br.P5
      have t2 := tenP_pos (-r.P)
      have p0 := pp_pos r.s
      have gp : 0 < r.g * pp r.s := Int.mul_pos (by omega) p0
      have m1 : r.g * pp r.s * 1 ≤ r.g * pp r.s * tenP (-r.P) := Int.mul_le_mul_of_nonneg_left (by omega) (Int.le_of_lt gp)
      rw [e1, Int.mul_one] at lo
      have big : r.g * pp r.s ≤ 100000 := by omega
      have pm : pp (r.s - f.low) ≤ pp r.s * 2 ^ 8 := by
        unfold pp
        rw [← p2add]
        exact p2mono (by omega)
      have m2 : r.g * pp (r.s - f.low) ≤ r.g * (pp r.s * 2 ^ 8) := Int.mul_le_mul_of_nonneg_left pm (by omega)
      rw [← Int.mul_assoc] at m2
      omega
    · have pm : pp (r.s - f.low) ≤ 2 ^ 7 := pp_le (by omega)
      have m2 : r.g * pp (r.s - f.low) ≤ r.g * 2 ^ 7 := Int.mul_le_mul_of_nonneg_left pm (by omega)
      omega
  · show pp (f.low - r.s) < _
    omega
/-- what the law finds is what is told -/
theorem run_told {r : Row} {f : Fo} (br : RowB r) (bf : FoB f) (so : r.Sound) (w : Way) {i : Nat} {k : Int} (hk : IsCode f.p f.J (r.lawRun f).D ((r.lawRun f).A * ((i : Int) + 1)) k) :
    lawTold f.p w (decide (0 < r.h)) (r.lawRun f).D ((r.lawRun f).A * ((i : Int) + 1)) k = if 0 < r.h then tell .up f w r.run ((i : Int) + 1) else tell .read f w r.run ((i : Int) + 1) := by
  have a := lw_told br.ok.run_ok (lawRun_b br bf so).2.2.1 (r.lawRun_cross f) bf.p1 w (by omega) hk
  by_cases h : 0 < r.h
  · rw [decide_eq_true h, if_pos h]; exact a.2
  · rw [decide_eq_false h, if_neg h]; exact a.1
theorem val_told {r : Row} {f : Fo} (br : RowB r) (bf : FoB f) (w : Way) {i : Nat} {k : Int} (hk : IsCode f.p f.J (r.lawVal f).D ((r.lawVal f).A * ((i : Int) + 1)) k) :
    lawTold f.p w false (r.lawVal f).D ((r.lawVal f).A * ((i : Int) + 1)) k = tell .read f w r.val ((i : Int) + 1) :=
  (lw_told r.val_ok (lawVal_b br bf).2.2.1 (by show tenP r.P * pp (-f.low) * (tenP (-r.P) * pp f.low) = tenP r.P * pp (-f.low) * (tenP (-r.P) * pp f.low); rfl) bf.p1 w (by omega) hk).1
def spLWrong : Sp := fun vs H Q _ => ∃ (fa ra : Addr) (f : Fo) (wy : Way) (word : Nat) (r : Row), vs = [.ref fa, .str (wayS wy), .ref ra, .int (lastOf word)] ∧ FoAt H fa f ∧ FoB f ∧ 1 ≤ word ∧ word ≤ 8 ∧ RowAt H ra r ∧ RowB r ∧ r.Sound ∧
  ∀ H' q, Same H H' → H q = none → H' q = some (.lst ((wrongs r f wy word).map V.int)) → Q (.ref q) H'
theorem none_back {H G : Hp} {z : Addr} (s : Same H G) (n : G z = none) : H z = none := by
  cases e : H z with
  | none => rfl
  | some o => rw [s _ _ e] at n; cases n
theorem ite_eqb {b b' : Bool} {A B : Prop} (e : b = b') (h1 : b' = true → A) (h2 : b' = false → B) : if b = true then A else B := by
  subst e
  cases b with
  | true => exact iteT (h1 rfl)
  | false => exact iteF (h2 rfl)
section
variable {P : Program} {w : World} {K : PySem.W.Frag} {mg : Str → Option Value} {base : Heap}
theorem sc_law_wrong : FnScope ["_law_form_here", "_law_way", "_law_row_here", "_law_last", "_law_run", "_law_true", "_law_k"] ["_law_form_here", "_law_way", "_law_row_here", "_law_last"] (defScope s_law_wrong) := ⟨rfl, rfl, rfl, by decide +kernel, rfl, by decide +kernel, by decide +kernel⟩
theorem cl_law_wrong (D : DefAt K mg "_law_wrong" s_law_wrong) (g_int : mg "int" = none) (g_range : mg "range" = none) (c_law_codes : Cl P w K mg base CX0 2 "_law_codes" spCodes) (c_law_slope : Cl P w K mg base CX0 2 "_law_slope" spLSlope) : Cl P w K mg base CX0 3 "_law_wrong" spLWrong := by
  refine cl_of D (fun _ _ _ _ _ _ us hl => match us, hl with | [_, _, _, _], _ => rfl) sc_law_wrong (fun vs H Q E h => ?_) (fun fp cdv A outer s H vs Q E hr h => ?_)
  · obtain ⟨fa, ra, f, wy, wd, r, rfl, _⟩ := h
    rfl
  · obtain ⟨fa, ra, f, wy, wd, r, rfl, hf, bf, w1, w8, ha, br, so, hQ⟩ := h
    have lb := lastOf_b w1 w8
    have ln := last_nat wd
    refine ⟨_, PSs.nox (pss_cons (ps_set (i := 4) sc_law_wrong.nd rfl (Or.inr rfl) (pe_cl c_law_codes hr (by decide) pass0 (pa_cons (pv 0) (pa_cons (pv 1) (pa_cons (pe_cl c_law_slope hr (by decide) pass0 (pa_cons (pv 0) (pa_cons pe_int (pa_cons (pe_ix ix_tup (pv 2) pe_int (fun _ _ => rfl)) (pa_cons (pe_ix ix_tup (pv 2) pe_int (fun _ _ => rfl)) pa_nil))))) (pa_cons (pv 3) (pa_cons (pe_callTy call_int1 (by rfl) g_int (by decide +kernel) (pa_cons (pe_cmpR op_gt (pe_ix ix_tup (pv 2) pe_int (fun _ _ => rfl)) pe_int (nomark _)) pa_nil)) pa_nil)))))))
      (pss_cons (ps_set (i := 5) sc_law_wrong.nd rfl (Or.inr rfl) (pe_cl c_law_codes hr (by decide) pass0 (pa_cons (pv 0) (pa_cons (pv 1) (pa_cons (pe_cl c_law_slope hr (by decide) pass0 (pa_cons (pv 0) (pa_cons (pe_ix ix_tup (pv 2) pe_int (fun _ _ => rfl)) (pa_cons pe_int (pa_cons pe_int pa_nil))))) (pa_cons (pv 3) (pa_cons pe_int pa_nil)))))))
      (pss_one (ps_ret (pe_lc (tt := tTest (tOp rNe (tOp (rIxL K) (tVar 4) (tVar 6)) (tOp (rIxL K) (tVar 5) (tVar 6)))) (own := [("_law_k", 6)]) rfl sc_law_wrong.nd (pi_range1 (by rfl) g_range (pa_cons (pv 3) pa_nil)) (blkOk_by (N := ["_law_form_here", "_law_way", "_law_row_here", "_law_last", "_law_run", "_law_true", "_law_k"]) (sc := defScope s_law_wrong) (by decide +kernel)) (fun _ _ _ _ _ => by exact (pg_name (i := 6) sc_law_wrong.nd rfl (Or.inl rfl))) (fun _ _ _ _ _ => (pts_one (pt_cmpR op_ne (pe_ix ix_list (pv 4) (pv 6) (fun _ _ => rfl)) (pe_ix ix_list (pv 5) (pv 6) (fun _ _ => rfl)) (nomark _)))) (fun _ _ _ _ _ => (pe_op op_add (pv 6) pe_int))))))), ?_⟩
    have g1 := br.g1
    have g2 := br.g2
    have sb0 := br.s0
    have sb1 := br.s1
    have pb0 := br.P0
    have pb5 := br.P5
    have rb := lawRun_b br bf so
    have vb := lawVal_b br bf
    generalize hlast : 2 ^ wd - 1 = last at ln
    rw [ln] at lb
    refine ⟨_, rfl, _, rfl, _, rfl, _, rfl, ra, _, 1, .int r.g, rfl, rfl, SqT.of ha, rfl, _, rfl, ra, _, 2, .int r.s, rfl, rfl, SqT.of ha, rfl, fa, f, 0, r.g, r.s, rfl, hf, bf, by decide, by decide, by omega, g2, sb0, sb1, fun H1 p1 s1 l1 => ?_⟩
    rw [lw_run] at l1
    refine ⟨_, rfl, _, rfl, ra, _, 3, .int r.h, rfl, rfl, SqT.of (s1 _ _ ha), rfl, _, _, rfl, rfl, .inr ⟨decide (0 < r.h), rfl, ?_⟩⟩
    rw [ln]
    refine ⟨fa, p1, f, wy, r.lawRun f, last, decide (0 < r.h), rfl, s1 _ _ hf, bf, l1, rb.1, rb.2.1, rb.2.2.1, rb.2.2.2, by omega, by omega, fun H2 q1 ks1 s2 hq1 n1 t1 => ?_⟩
    have s12 := s1.trans s2
    refine ⟨_, rfl, _, rfl, _, rfl, _, rfl, ra, _, 0, .int r.P, rfl, rfl, SqT.of (s12 _ _ ha), rfl, fa, f, r.P, 1, 0, rfl, s12 _ _ hf, bf, pb0, pb5, by decide, by decide, by decide, by decide, fun H3 p3 s3 l3 => ?_⟩
    rw [lw_val] at l3
    have s13 := s12.trans s3
    refine ⟨_, rfl, fa, p3, f, wy, r.lawVal f, last, false, rfl, s13 _ _ hf, bf, l3, vb.1, vb.2.1, vb.2.2.1, vb.2.2.2, by omega, by omega, fun H4 q2 ks2 s4 hq2 n2 t2 => ?_⟩
    have s14 := s13.trans s4
    have hq14 := (s3.trans s4) _ _ hq1
    refine ⟨_, rfl, last, rfl, by omega, by omega, fun D hD => ?_⟩
    refine lc_range (n := ((last : Nat) : Int).toNat) (fun i H5 => Same H4 H5 ∧ H5 D = some (.lst ((wl (r.wrong f wy) i).map V.int)))
      ⟨same_of_upd hD, upd_same⟩ (fun i H5 hi ⟨s5, l5⟩ => ?_) (fun H5 ⟨s5, l5⟩ => ?_)
    · have hi' : i < last := by rw [Int.toNat_natCast] at hi; exact hi
      obtain ⟨k1, c1, e1⟩ := t1 i hi'
      obtain ⟨k2, c2, e2⟩ := t2 i hi'
      rw [run_told br bf so wy c1] at e1
      rw [val_told br bf wy c2] at e2
      have at1 : ∀ {ks : List Int} {z : Int}, ks.length = last → ks[i]? = some z → atI (ks.map V.int) (0 + (i : Int)) = some (.int z) := fun {ks z} hl hz => by
        unfold atI ixN
        rw [List.length_map, hl, if_pos (show (0 : Int) ≤ 0 + (i : Int) by omega), if_pos (show 0 + (i : Int) < (last : Int) by omega)]
        show (ks.map V.int)[(0 + (i : Int)).toNat]? = _
        rw [show (0 + (i : Int)).toNat = i by omega, List.getElem?_map, hz]
        rfl
      refine ⟨rfl, ?_⟩
      refine ⟨_, rfl, _, rfl, q1, _, _, _, rfl, rfl, SqL.of (s5 _ _ hq14), at1 n1 e1, _, rfl, _, rfl, q2, _, _, _, rfl, rfl, SqL.of (s5 _ _ hq2), at1 n2 e2, rfl, _, rfl, ?_⟩
      have wr : (!decide (V.int (if 0 < r.h then tell .up f wy r.run ((i : Int) + 1) else tell .read f wy r.run ((i : Int) + 1)) = V.int (tell .read f wy r.val ((i : Int) + 1)))) = r.wrong f wy i := by
        rw [int_is]
        unfold Row.wrong
        by_cases hx : (if 0 < r.h then tell .up f wy r.run ((i : Int) + 1) else tell .read f wy r.run ((i : Int) + 1)) = tell .read f wy r.val ((i : Int) + 1)
        · rw [decide_eq_true hx, decide_eq_false (fun z => z hx)]; rfl
        · rw [decide_eq_false hx, decide_eq_true hx]; rfl
      refine ite_eqb wr (fun hb => ?_) fun hb => ?_
      · refine ⟨_, rfl, _, _, rfl, rfl, _, l5, ?_, same_up s5 hD, ?_⟩
        · rw [List.length_map]
          have : (wl (r.wrong f wy) i).length ≤ i := by
            unfold wl
            rw [List.length_map]
            exact Nat.le_trans (List.length_filter_le _ _) (Nat.le_of_eq List.length_range)
          show _ < 2 ^ 24
          omega
        · rw [upd_same, wl_succ, if_pos hb, List.map_append]
          show some (HO.lst (_ ++ [V.int (0 + (i : Int) + 1)])) = _
          rw [Int.zero_add]
          rfl
      · refine ⟨s5, ?_⟩
        rw [wl_succ, if_neg (by rw [hb]; exact Bool.false_ne_true), List.append_nil]
        exact l5
    · rw [Int.toNat_natCast] at l5
      refine hQ H5 D (s14.trans s5) (none_back s14 hD) ?_
      unfold wrongs
      rw [hlast]
      exact l5
end
end K45
/-! ## W26 -/
namespace K45
open PySem PySem.Spec PyProof.Rows L2
section
variable {X : Cx} {k j : Nat} {x : Str} {sp : Sp} {CX : CXT} {E : XK} {p pos : Pos}
theorem pe_cl0 (c : Cl X.prog X.w X.K X.mg X.base CX k x sp) (hr : Room j X.A) (hk : k ≤ j) (hx : Passes CX X E) (hg : Gl X x := by rfl)
    (hdb : (x == ("__debug__" : Str)) = false := by decide) : PE X (.Call (.Name x p) [] [] pos) (tCall sp [] E tNil) := by
  obtain ⟨f, fd, ps, F, hm, kp, b⟩ := c.ex
  exact pe_call0 F (hr.mono hk) hg hm kp b .nil hx hdb
end
def spWays : Sp := fun vs H Q _ => vs = [] ∧ ∀ p, H p = none → Q (.ref p) (upd H p (.lst [.str (wayS .even), .str (wayS .away), .str (wayS .zero), .str (wayS .out), .str (wayS .odd)]))
/-- the law's indexes: what stands at q -/
structure IxAt (H : Hp) (q : Addr) (m v1 v2 : Int) (t l d : Addr) : Prop where
  q : H q = some (.lst [.int 0, .int (m - 1), .int m, .int (-1), .int (10 ^ 40), .non, .bl true, .bl false, .str "0", .ref t, .ref l, .ref d, .int v1, .int (0 - 1 - v2)])
  t : H t = some (.tup [.int 0])
  l : H l = some (.lst [.int 0])
  d : H d = some (.dK [])
def spIxs : Sp := fun vs H Q _ => ∃ (a c : Addr) (cells : List Int) (k m : Int), vs = [.ref a, .int m] ∧ DkAt H a c cells k ∧ k ≤ 90000 ∧ 0 ≤ m ∧ m ≤ 1000 ∧
  ∀ H' cells' q v1 v2 t l d, SameD a c H H' → DkAt H' a c cells' (k + 2) → IxAt H' q m v1 v2 t l d → 0 ≤ v1 → v1 ≤ 1000 → 0 ≤ v2 → v2 < 9 → Q (.ref q) H'
section
variable {P : Program} {w : World} {K : PySem.W.Frag} {mg : Str → Option Value} {base : Heap}
theorem sc_law_ways : FnScope [] [] (defScope s_law_ways) := ⟨rfl, rfl, rfl, by decide +kernel, rfl, by decide +kernel, by decide +kernel⟩
theorem cl_law_ways (D : DefAt K mg "_law_ways" s_law_ways) : Cl P w K mg base CX0 1 "_law_ways" spWays := by
  refine cl_of D (fun _ _ _ _ _ _ us hl => match us, hl with | [], _ => rfl) sc_law_ways (fun vs H Q E h => ?_) (fun fp cdv A outer s H vs Q E hr h => ?_)
  · obtain ⟨rfl, _⟩ := h
    rfl
  · obtain ⟨rfl, hQ⟩ := h
    refine ⟨_, PSs.nox (pss_one (ps_ret (pe_lst (pa_cons pe_str (pa_cons pe_str (pa_cons pe_str (pa_cons pe_str (pa_cons pe_str pa_nil)))))))), ?_⟩
    exact ⟨(by show 5 ≤ sizeLine; decide), fun p hp => hQ p hp⟩
theorem sc_law_indexes : FnScope ["_law_deck_here", "_law_many", "_law_some"] ["_law_deck_here", "_law_many"] (defScope s_law_indexes) := ⟨rfl, rfl, rfl, by decide +kernel, rfl, by decide +kernel, by decide +kernel⟩
theorem cl_law_indexes (D : DefAt K mg "_law_indexes" s_law_indexes) (g_max : mg "max" = none) (c_law_draw : Cl P w K mg base CX0 1 "_law_draw" spDraw) : Cl P w K mg base CX0 2 "_law_indexes" spIxs := by
  refine cl_of D (fun _ _ _ _ _ _ us hl => match us, hl with | [_, _], _ => rfl) sc_law_indexes (fun vs H Q E h => ?_) (fun fp cdv A outer s H vs Q E hr h => ?_)
  · obtain ⟨a, c, cells, k, m, rfl, _⟩ := h
    rfl
  · obtain ⟨a, c, cells, k, m, rfl, dk, hk, m0, m1, hQ⟩ := h
    refine ⟨_, PSs.nox (pss_cons (ps_set (i := 2) sc_law_indexes.nd rfl (Or.inl rfl) (pe_lst (pa_cons pe_int (pa_cons (pe_op op_sub (pv 1) pe_int) (pa_cons (pv 1) (pa_cons (pe_un un_neg pe_int) (pa_cons (pe_op op_pow pe_int pe_int) (pa_cons pe_non (pa_cons pe_bl (pa_cons pe_bl (pa_cons pe_str (pa_cons (pe_tup (pa_cons pe_int pa_nil)) (pa_cons (pe_lst (pa_cons pe_int pa_nil)) (pa_cons pe_dnewK pa_nil))))))))))))))
      (pss_one (ps_ret (pe_op op_cat (pv 2) (pe_lst (pa_cons (pe_cl c_law_draw hr (by decide) pass0 (pa_cons (pv 0) (pa_cons (pe_callB (call_max2 rfl) (by rfl) g_max (by decide +kernel) (pa_cons pe_int (pa_cons (pv 1) pa_nil))) pa_nil))) (pa_cons (pe_op op_sub (pe_op op_sub pe_int pe_int) (pe_cl c_law_draw hr (by decide) pass0 (pa_cons (pv 0) (pa_cons pe_int pa_nil)))) pa_nil))))))), ?_⟩
    refine ⟨_, rfl, _, _, rfl, rfl, _, rfl, _, rfl, _, _, rfl, rfl, ⟨by decide, by decide, by decide⟩, ?_⟩
    refine ⟨(by show 1 ≤ sizeLine; decide), fun t ht => ?_⟩
    have st := same_of_upd (o := .tup [.int 0]) ht
    have lt : upd H t (.tup [.int 0]) t = some (.tup [.int 0]) := upd_same
    generalize upd H t (.tup [.int 0]) = H1 at st lt
    refine ⟨(by show 1 ≤ sizeLine; decide), fun l hl => ?_⟩
    have sl := same_of_upd (o := .lst [.int 0]) hl
    have ll : upd H1 l (.lst [.int 0]) l = some (.lst [.int 0]) := upd_same
    generalize upd H1 l (.lst [.int 0]) = H2 at sl ll
    refine fun d hd => ?_
    have sd := same_of_upd (o := .dK []) hd
    have ld : upd H2 d (.dK []) d = some (.dK []) := upd_same
    generalize upd H2 d (.dK []) = H3 at sd ld
    refine ⟨(by show 12 ≤ sizeLine; decide), fun p hp => ?_⟩
    generalize hxs : [V.int 0, V.int (m - 1), V.int m, V.int (-1), V.int (10 ^ (40 : Int).toNat), V.non, V.bl true, V.bl false, V.str "0", V.ref t, V.ref l, V.ref d] = xs
    have sp := same_of_upd (o := .lst xs) hp
    have lp : upd H3 p (.lst xs) p = some (.lst xs) := upd_same
    generalize upd H3 p (.lst xs) = H4 at sp lp
    have s4 : Same H H4 := ((st.trans sl).trans sd).trans sp
    refine ⟨_, rfl, _, rfl, _, rfl, _, _, rfl, a, c, cells, k, _, rfl, dk.same s4, by omega, by split <;> omega, by split <;> omega, fun H5 cells5 v1 s5 d5 v10 v11 => ?_⟩
    refine ⟨_, _, rfl, rfl, _, rfl, a, c, cells5, k + 1, 9, rfl, d5, by omega, by decide, by decide, fun H6 cells6 v2 s6 d6 v20 v21 => ⟨_, _, rfl, rfl, (by show 2 ≤ sizeLine; decide), fun b hb => ?_⟩⟩
    have sb := same_of_upd (o := .lst [.int v1, .int (0 - 1 - v2)]) hb
    have ne : ∀ {z : Addr} {o : HO}, H z = none → H4 z = some o → z ≠ a ∧ z ≠ c := fun {z o} n _ => ⟨fun e => ne_of_none dk.1 n e.symm, fun e => ne_of_none dk.2.1 n e.symm⟩
    have n1 : ∀ {G : Hp} {z : Addr}, Same H G → G z = none → H z = none := fun {G z} s n => by
      cases e : H z with
      | none => rfl
      | some o => rw [s _ _ e] at n; cases n
    have s56 : SameD a c H4 H6 := s5.trans s6
    have kp : ∀ {z : Addr} {o : HO}, H z = none → H4 z = some o → upd H6 b (.lst [.int v1, .int (0 - 1 - v2)]) z = some o := fun {z o} n e => sb _ _ (s56 _ _ (ne n e).1 (ne n e).2 e)
    have nl : H l = none := n1 st hl
    have nd : H d = none := n1 (st.trans sl) hd
    have np : H p = none := n1 ((st.trans sl).trans sd) hp
    have l4 := sp _ _ (sd _ _ ll)
    have d4 := sp _ _ ld
    have t4 := sp _ _ (sd _ _ (sl _ _ lt))
    refine ⟨p, b, _, _, rfl, rfl, kp np lp, upd_same, ?_, fun q hq => ?_⟩
    · subst hxs
      exact Nat.le_of_ble_eq_true rfl
    have sq := same_of_upd (o := .lst (xs ++ [.int v1, .int (0 - 1 - v2)])) hq
    refine hQ _ cells6 q v1 v2 t l d ((((Same.d s4).trans s56).trans (Same.d sb)).trans (Same.d sq)) ((d6.same sb).same sq |> fun z => ?_) ⟨?_, sq _ _ (kp ht t4), sq _ _ (kp nl l4), sq _ _ (kp nd d4)⟩ v10 ?_ v20 v21
    · rw [show k + 2 = k + 1 + 1 by omega]
      exact z
    · rw [upd_same]
      subst hxs
      rfl
    · split at v11 <;> omega
end
end K45
/-! ## W27 -/
namespace K45
open PySem PySem.Spec PyProof.Rows L2
/-! ### what is shown, what is equal -/
/-- short, of good signs -/
def shB (d : PyData) : Bool := decide (d.shown.length ≤ sizeLine) && SeqAt.shaped (.str d.shown)
theorem shB_int_all : ((List.range 2001).all fun n => shB (.int ((n : Int) - 1000))) = true := by decide +kernel
theorem shB_int {i : Int} (h0 : -1000 ≤ i) (h1 : i ≤ 1000) : shB (.int i) = true := by
  have := List.all_eq_true.mp shB_int_all (i + 1000).toNat (List.mem_range.mpr (by omega))
  have e : (((i + 1000).toNat : Nat) : Int) - 1000 = i := by omega
  rw [e] at this
  exact this
theorem shB_size {d : PyData} (h : shB d = true) : d.shown.length ≤ sizeLine := of_decide_eq_true (Bool.and_eq_true_iff.mp h).1
theorem shB_ok {d : PyData} (h : shB d = true) : SeqAt.shaped (.str d.shown) = true := (Bool.and_eq_true_iff.mp h).2
theorem log_small {i : Int} (h0 : -1000 ≤ i) (h1 : i ≤ 1000) : i.natAbs.log2 < 1920 := by
  by_cases h : i.natAbs = 0
  · rw [h]; decide
  · have := Nat.log2_self_le h
    have h2 : 2 ^ i.natAbs.log2 < 2 ^ 1920 := by omega
    exact (Nat.pow_lt_pow_iff_right (by decide)).mp h2
/-- what count_wrong is to tell -/
def cntD (r : Row) (f : Fo) (wy : Way) (word : Nat) : PyData :=
  if r.Sound then if r.Fine f then .int ((wrongs r f wy word).length : Int) else .list [.str "Coarse", .int r.P, .bool true] else .list [.str "NotSound", .int r.P, .bool true]
theorem LeafD.dp {K : PySem.W.Frag} {H : Hp} {x : V} {d : PyData} (h : LeafD x d) : Dp K H x d := by
  cases h
  · exact .non
  · exact .bl _
  · exact .int _
  · exact .str _
theorem leaves_dp {K : PySem.W.Frag} {H : Hp} : ∀ {xs : List V} {ds : List PyData}, Paired LeafD xs ds → DpAll K H xs ds
  | _, _, .nil => .nil
  | _, _, .cons h t => .cons h.dp (leaves_dp t)
theorem wrongs_len (r : Row) (f : Fo) (wy : Way) {word : Nat} (w8 : word ≤ 8) : (wrongs r f wy word).length ≤ 255 := by
  unfold wrongs wl
  rw [List.length_map]
  refine Nat.le_trans (List.length_filter_le _ _) ?_
  rw [List.length_range]
  have : 2 ^ word ≤ 2 ^ 8 := Nat.pow_le_pow_right (by decide) w8
  omega
theorem cnt_shB_all : ((List.range 11).all fun n => shB (.list [.str "Coarse", .int ((n : Int) - 5), .bool true]) && shB (.list [.str "NotSound", .int ((n : Int) - 5), .bool true])) = true := by decide +kernel
theorem cnt_shB {r : Row} (br : RowB r) (f : Fo) (wy : Way) {word : Nat} (w8 : word ≤ 8) : shB (cntD r f wy word) = true := by
  have p0 := br.P0
  have p5 := br.P5
  have := List.all_eq_true.mp cnt_shB_all (r.P + 5).toNat (List.mem_range.mpr (by omega))
  have e : (((r.P + 5).toNat : Nat) : Int) - 5 = r.P := by omega
  rw [e] at this
  obtain ⟨a, b⟩ := Bool.and_eq_true_iff.mp this
  have := wrongs_len r f wy w8
  unfold cntD
  split
  · split
    · exact shB_int (by omega) (by omega)
    · exact a
  · exact b
/-- a count's value, as it stands -/
def CntAt (H : Hp) (x : V) (r : Row) (f : Fo) (wy : Way) (word : Nat) : Prop := ShowD H x (cntD r f wy word) ∧ (r.Sound → r.Fine f → x = .int ((wrongs r f wy word).length : Int)) ∧
  (¬ r.Sound → ∃ p, x = .ref p ∧ H p = some (.lst [.str "NotSound", .int r.P, .bl true])) ∧ (r.Sound → ¬ r.Fine f → ∃ p, x = .ref p ∧ H p = some (.lst [.str "Coarse", .int r.P, .bl true]))
theorem cnt_at {H : Hp} {r : Row} {f : Fo} {wy : Way} {word : Nat} {Q : VK} (br : RowB r) (w8 : word ≤ 8) (h : ∀ H' x, Same H H' → CntAt H' x r f wy word → Q x H') :
    (r.Sound → r.Fine f → ∀ H', Same H H' → Q (.int ((wrongs r f wy word).length : Int)) H') ∧
  (¬ r.Sound → ∀ H' p, Same H H' → H' p = some (.lst [.str "NotSound", .int r.P, .bl true]) → Q (.ref p) H') ∧ (r.Sound → ¬ r.Fine f → ∀ H' p, Same H H' → H' p = some (.lst [.str "Coarse", .int r.P, .bl true]) → Q (.ref p) H') := by
  have p0 := br.P0
  have p5 := br.P5
  have lp := log_small (i := r.P) (by omega) (by omega)
  have wl := wrongs_len r f wy w8
  refine ⟨fun so fi H' s => h H' _ s ⟨?_, fun _ _ => rfl, fun n => absurd so n, fun _ n => absurd fi n⟩, fun ns H' p s e => h H' _ s ⟨?_, fun so => absurd so ns, fun _ => ⟨p, rfl, e⟩, fun so => absurd so ns⟩, fun so nf H' p s e => h H' _ s ⟨?_, fun _ fi => absurd fi nf, fun n => absurd so n, fun _ _ => ⟨p, rfl, e⟩⟩⟩
  · unfold cntD
    rw [if_pos so, if_pos fi]
    exact .leaf (.int (log_small (by omega) (by omega)))
  · unfold cntD
    rw [if_neg ns]
    exact .lst e (.cons (.str _) (.cons (.int lp) (.cons (.bl _) .nil)))
  · unfold cntD
    rw [if_pos so, if_neg nf]
    exact .lst e (.cons (.str _) (.cons (.int lp) (.cons (.bl _) .nil)))
/-! ### an index, and what is told of it -/
structure IdxOk (K : PySem.W.Frag) (H : Hp) (x : V) (b : Bool) (d : PyData) : Prop where
  wh : ∀ H', Same H H' → WhV K H' x b
  yes : b = true → ∃ i, x = .int i
  no : b = false → ∀ i, x ≠ .int i
  sh : ShowD H x d
  ok : shB d = true
theorem IdxOk.same {K : PySem.W.Frag} {H H' : Hp} {x : V} {b : Bool} {d : PyData} (h : IdxOk K H x b d) (s : Same H H') : IdxOk K H' x b d := ⟨fun H2 s2 => h.wh H2 (s.trans s2), h.yes, h.no, h.sh.same s, h.ok⟩
theorem idx_int {K : PySem.W.Frag} {H : Hp} {i : Int} (hl : i.natAbs.log2 < 1920) (hs : shB (.int i) = true) : IdxOk K H (.int i) true (.int i) := ⟨fun _ _ => .int i, fun _ => ⟨i, rfl⟩, fun z => Bool.noConfusion z, .leaf (.int hl), hs⟩
theorem idx_small {K : PySem.W.Frag} {H : Hp} {i : Int} (h0 : -1000 ≤ i) (h1 : i ≤ 1000) : IdxOk K H (.int i) true (.int i) := idx_int (log_small h0 h1) (shB_int h0 h1)
theorem idx_non {K : PySem.W.Frag} {H : Hp} : IdxOk K H .non false .none := ⟨fun _ _ => .oth (.base .non) rfl rfl, fun z => Bool.noConfusion z, fun _ _ => V.noConfusion, .leaf .non, by decide +kernel⟩
theorem idx_bl {K : PySem.W.Frag} {H : Hp} (c : Bool) : IdxOk K H (.bl c) false (.bool c) := ⟨fun _ _ => .bl c, fun z => Bool.noConfusion z, fun _ _ => V.noConfusion, .leaf (.bl c), by cases c <;> decide +kernel⟩
theorem ix_ok {K : PySem.W.Frag} {H : Hp} {q : Addr} {m v1 v2 : Int} {t l d : Addr} (h : IxAt H q m v1 v2 t l d) (m0 : 0 ≤ m) (m1 : m ≤ 500) (a0 : 0 ≤ v1) (a1 : v1 ≤ 1000) (b0 : 0 ≤ v2) (b1 : v2 < 9) {x : V}
    (hx : x ∈ [.int 0, .int (m - 1), .int m, .int (-1), .int (10 ^ 40), .non, .bl true, .bl false, .str "0", .ref t, .ref l, .ref d, .int v1, .int (0 - 1 - v2)]) : ∃ b d, IdxOk K H x b d := by
  simp only [List.mem_cons, List.not_mem_nil, or_false] at hx
  rcases hx with rfl | rfl | rfl | rfl | rfl | rfl | rfl | rfl | rfl | rfl | rfl | rfl | rfl | rfl
  · exact ⟨_, _, idx_small (by decide) (by decide)⟩
  · exact ⟨_, _, idx_small (by omega) (by omega)⟩
  · exact ⟨_, _, idx_small (by omega) (by omega)⟩
  · exact ⟨_, _, idx_small (by decide) (by decide)⟩
  · exact ⟨_, _, idx_int (by decide +kernel) (by decide +kernel)⟩
  · exact ⟨_, _, idx_non⟩
  · exact ⟨_, _, idx_bl _⟩
  · exact ⟨_, _, idx_bl _⟩
  · exact ⟨false, .str "0", fun _ _ => .oth (.base (.str _)) rfl rfl, fun z => Bool.noConfusion z, fun _ _ => V.noConfusion, .leaf (.str _), by decide +kernel⟩
  · exact ⟨false, .tuple [.int 0], fun H' s => .oth (.base (.tup (s _ _ h.t))) rfl rfl, fun z => Bool.noConfusion z, fun _ _ => V.noConfusion, .tup h.t (.cons (.int (by decide +kernel)) .nil), by decide +kernel⟩
  · exact ⟨false, .list [.int 0], fun H' s => .oth (.base (.lst (s _ _ h.l))) rfl rfl, fun z => Bool.noConfusion z, fun _ _ => V.noConfusion, .lst h.l (.cons (.int (by decide +kernel)) .nil), by decide +kernel⟩
  · exact ⟨false, .dict [], fun H' s => .oth (.base (.dK (s _ _ h.d))) rfl rfl, fun z => Bool.noConfusion z, fun _ _ => V.noConfusion, .dct h.d, by decide +kernel⟩
  · exact ⟨_, _, idx_small (by omega) (by omega)⟩
  · exact ⟨_, _, idx_small (by omega) (by omega)⟩
/-! ### equal lists -/
theorem dp_ints {K : PySem.W.Frag} {H : Hp} : ∀ ns : List Int, DpAll K H (ns.map V.int) (ns.map PyData.int)
  | [] => .nil
  | n :: ns => .cons (.int n) (dp_ints ns)
theorem lay_ints : ∀ ns : List Int, PyData.canLayAll0 (ns.map PyData.int) = true
  | [] => rfl
  | n :: ns => by
    show (PyData.canLay0 (.int n) && PyData.canLayAll0 (ns.map PyData.int)) = true
    rw [lay_ints ns]; rfl
theorem depth_ints : ∀ ns : List Int, PyData.depthAll (ns.map PyData.int) = 0
  | [] => rfl
  | n :: ns => by
    show max (PyData.depth (.int n)) (PyData.depthAll (ns.map PyData.int)) = 0
    rw [depth_ints ns]; rfl
theorem shaped_ints (ns : List Int) : SeqAt.shaped (.list (ns.map PyData.int)) = true := by
  unfold SeqAt.shaped
  have h1 : PyData.canLay0 (.list (ns.map PyData.int)) = true := lay_ints ns
  have h2 : PyData.depth (.list (ns.map PyData.int)) = 0 + 1 := by
    show PyData.depthAll (ns.map PyData.int) + 1 = _
    rw [depth_ints ns]
  rw [h1, h2]; rfl
theorem eqv_self {d : PyData} (h : SeqAt.shaped d = true) : PyData.eqv d d = true := SeqAt.eqv_refl _ (SeqAt.canLay_of_shaped h)
end K45
/-! ## W28 -/
namespace K45
open PySem PySem.Spec PyProof.Rows L2
def spLCount2 : Sp := fun vs H Q _ => ∃ (fa ra : Addr) (f : Fo) (wy : Way) (word : Nat) (r : Row), vs = [.ref fa, .str (wayS wy), .int (word : Int), .ref ra] ∧ FoAt H fa f ∧ FoB f ∧ 1 ≤ word ∧ word ≤ 8 ∧ RowAt H ra r ∧ RowB r ∧
  ∀ H' x, Same H H' → CntAt H' x r f wy word → Q x H'
theorem cl_mono {P : Program} {w : World} {K : PySem.W.Frag} {mg : Str → Option Value} {base : Heap} {CX : CXT} {k : Nat} {x : Str} {sp sp2 : Sp} (c : Cl P w K mg base CX k x sp) (h : ∀ vs H Q E, sp2 vs H Q E → sp vs H Q E) : Cl P w K mg base CX k x sp2 := by
  obtain ⟨f, fd, ps, F, a, b, d⟩ := c.ex
  exact ⟨f, fd, ps, ⟨fun vs H Q E q => F.len vs H Q E (h _ _ _ _ q), fun A outer s H args us vs Q E hr e0 hb r q => F.run A outer s H args us vs Q E hr e0 hb r (h _ _ _ _ q)⟩, a, b, d⟩
theorem clG_mono {P : Program} {w : World} {K : PySem.W.Frag} {mg : Str → Option Value} {base : Heap} {CX : CXT} {k : Nat} {x : Str} {sp sp2 : Sp} (c : ClG P w K mg base CX k x sp) (h : ∀ vs H Q E, sp2 vs H Q E → sp vs H Q E) : ClG P w K mg base CX k x sp2 := by
  obtain ⟨f, fd, ps, F, a, b, d⟩ := c.ex
  exact ⟨f, fd, ps, ⟨fun vs H Q E q => F.len vs H Q E (h _ _ _ _ q), fun A outer s H args us vs Q E hg hr e0 hb r q => F.run A outer s H args us vs Q E hg hr e0 hb r (h _ _ _ _ q)⟩, a, b, d⟩
/-- what _law_at tells of an index -/
def AtIs (H : Hp) (y : V) (r : Row) (f : Fo) (wy : Way) (word : Nat) (x : V) (d : PyData) : Prop := (¬ r.Sound → ∃ p, y = .ref p ∧ H p = some (.lst [.str "NotSound", .int r.P])) ∧ (r.Sound → ¬ r.Fine f → ∃ p, y = .ref p ∧ H p = some (.lst [.str "Coarse", .int r.P])) ∧
  (r.Sound → r.Fine f → (∃ (i : Nat) (z : Int), x = .int (i : Int) ∧ (wrongs r f wy word)[i]? = some z ∧ y = .int z) ∨ (NoWr (wrongs r f wy word) x ∧ ∃ p, y = .ref p ∧ H p = some (.lst [.str "NoIndex", .str d.shown, .bl true, .bl false])))
def spLAt2 (K : PySem.W.Frag) : Sp := fun vs H Q _ => ∃ (fa ra : Addr) (f : Fo) (wy : Way) (word : Nat) (r : Row) (x : V) (b : Bool) (d : PyData), vs = [.ref fa, .str (wayS wy), .int (word : Int), .ref ra, x] ∧ FoAt H fa f ∧ FoB f ∧ 1 ≤ word ∧ word ≤ 8 ∧ RowAt H ra r ∧ RowB r ∧
  IdxOk K H x b d ∧ ∀ H' y, Same H H' → AtIs H' y r f wy word x d → Q y H'
def spLRight : Sp := fun vs H Q _ => ∃ (a c : Addr) (cells : List Int) (k : Int) (fa ra : Addr) (f : Fo) (wy : Way) (word : Nat) (r : Row), vs = [.ref a, .ref fa, .str (wayS wy), .int (word : Int), .ref ra] ∧ DkAt H a c cells k ∧ k ≤ 90000 ∧ FoAt H fa f ∧ FoB f ∧ 1 ≤ word ∧ word ≤ 8 ∧ RowAt H ra r ∧ RowB r ∧
  ∀ H' cells' k', SameD a c H H' → DkAt H' a c cells' k' → k' ≤ k + 2 → Q (.bl true) H'
theorem elif_off {K : PySem.W.Frag} {D : Ends} {A B : TS} {σ : L2.St} {H : Hp} {x : V} {p : Addr} {d : PyData} (h7 : σ[7]? = some (some x)) (h8 : σ[8]? = some (some (.ref p))) (hp : H p = some (.lst [.str "NoIndex", .str d.shown, .bl true, .bl false])) (sh : ShowD H x d) (ok : shB d = true)
    (hB : ∀ H', Same H H' → B D σ H') : tIfS (tTest (tOp (rNeD K) (tVar 8) (tLst (tCons (tC (.str "NoIndex")) (tCons (tCB rRepr (tCons (tVar 7) tNil)) (tCons (tC (.bl true)) (tCons (tC (.bl false)) tNil))))))) A B D σ H := by
  have shl : SeqAt.shaped (.list [.str "NoIndex", .str d.shown, .bool true, .bool false]) = true := by
    have h1 : PyData.canLay0 (.str d.shown) = true := SeqAt.canLay_of_shaped (shB_ok ok)
    have h2 : PyData.canLay0 (.list [.str "NoIndex", .str d.shown, .bool true, .bool false]) = true := by
      show (PyData.canLay0 (.str "NoIndex") && (PyData.canLay0 (.str d.shown) && true)) = true
      rw [h1, show PyData.canLay0 (.str "NoIndex") = true by decide +kernel]; rfl
    unfold SeqAt.shaped
    rw [h2]; rfl
  have dpl : ∀ {H' : Hp} {p : Addr}, H' p = some (.lst [.str "NoIndex", .str d.shown, .bl true, .bl false]) → Dp K H' (.ref p) (.list [.str "NoIndex", .str d.shown, .bool true, .bool false]) := fun {H' p} e => .lst (SqL.of e) (.cons (.str _) (.cons (.str _) (.cons (.bl _) (.cons (.bl _) .nil))))
  refine ⟨_, h8, _, h7, x, d, rfl, sh, shB_size ok, (by show 4 ≤ sizeLine; decide), fun e he => ?_⟩
  have se := same_of_upd (o := .lst [.str "NoIndex", .str d.shown, .bl true, .bl false]) he
  refine ⟨_, _, dpl (se _ _ hp), dpl upd_same, shl, shl, _, rfl, ?_⟩
  exact ite_eqb (b' := false) (by rw [eqv_self shl]; rfl) (fun z => Bool.noConfusion z) fun _ => hB _ se
theorem iteNT {c A B : Prop} [Decidable c] (hc : ¬ c) (h : A) : if (!decide c) = true then A else B := by
  rw [decide_eq_false hc]
  exact iteT h
section
variable {P : Program} {w : World} {K : PySem.W.Frag} {mg : Str → Option Value} {base : Heap}
theorem sc_law_right : FnScope ["_law_deck_here", "_law_form_here", "_law_way", "_law_word", "_law_row_here", "_law_due", "_law_found", "_law_index", "_law_told_here", "_law_wrong_here", "_law_k"] ["_law_deck_here", "_law_form_here", "_law_way", "_law_word", "_law_row_here"] (defScope s_law_right) := ⟨rfl, rfl, rfl, by decide +kernel, rfl, by decide +kernel, by decide +kernel⟩
theorem cl_law_right (D : DefAt K mg "_law_right" s_law_right) (g_repr : mg "repr" = none) (g_len : mg "len" = none) (g_min : mg "min" = none) (g_range : mg "range" = none)
    (c_law_sound : Cl P w K mg base CX0 2 "_law_sound" spLSound) (c_law_count' : Cl P w K mg base CX0 11 "_law_count" spLCount) (c_law_at' : ClG P w K mg base CX0 11 "_law_at" (spLAt K)) (c_law_wrong : Cl P w K mg base CX0 3 "_law_wrong" spLWrong)
    (c_law_whole : Cl P w K mg base CX0 1 "_law_whole" (spWhole K)) (c_law_indexes : Cl P w K mg base CX0 2 "_law_indexes" spIxs) : ClG P w K mg base CX0 12 "_law_right" spLRight := by
  refine clG_of D (fun _ _ _ _ _ _ us hl => match us, hl with | [_, _, _, _, _], _ => rfl) sc_law_right (fun vs H Q E h => ?_) (fun fp cdv A outer s H vs Q E hg hr h => ?_)
  · obtain ⟨a, c, cells, k, fa, ra, f, wy, wd, r, rfl, _⟩ := h
    rfl
  · obtain ⟨a, c, cells, k, fa, ra, f, wy, wd, r, rfl, dk, hk, hf, bf, w1, w8, ha, br, hQ⟩ := h
    have hu64 : (A.deeper (envOfC "_law_right" (defScope s_law_right) s.heap.objs.size fp cdv)).units + 64 < cLine := hr.units
    have hu10 : (A.deeper (envOfC "_law_right" (defScope s_law_right) s.heap.objs.size fp cdv)).units + 10 < cLine := by omega
    have c_law_at : ClG P w K mg base CX0 11 "_law_at" (spLAt2 K) := clG_mono c_law_at' fun vs H Q E h => by
      obtain ⟨fa, ra, f, wy, wd, r, x, b, d, rfl, hf, bf, w1, w8, ha, br, ix, hq⟩ := h
      refine ⟨fa, ra, f, wy, wd, r, x, b, d, rfl, hf, bf, w1, w8, ha, br, ix.wh, ix.yes, ix.no, ix.sh, shB_size ix.ok, fun so fi H' i y s1 hx hy => hq H' _ s1 ⟨fun n => absurd so n, fun _ n => absurd fi n, fun _ _ => .inl ⟨i, y, hx, hy, rfl⟩⟩, fun so fi no H' p s1 hp => hq H' _ s1 ⟨fun n => absurd so n, fun _ n => absurd fi n, fun _ _ => .inr ⟨no, p, rfl, hp⟩⟩,
        fun ns H' p s1 hp => hq H' _ s1 ⟨fun _ => ⟨p, rfl, hp⟩, fun so => absurd so ns, fun so => absurd so ns⟩, fun so nf H' p s1 hp => hq H' _ s1 ⟨fun n => absurd so n, fun _ _ => ⟨p, rfl, hp⟩, fun _ fi => absurd fi nf⟩⟩
    have c_law_count : Cl P w K mg base CX0 11 "_law_count" spLCount2 := cl_mono c_law_count' fun vs H Q E h => by
      obtain ⟨fa, ra, f, wy, wd, r, rfl, hf, bf, w1, w8, ha, br, hq⟩ := h
      exact ⟨fa, ra, f, wy, wd, r, rfl, hf, bf, w1, w8, ha, br, cnt_at br w8 hq⟩
    refine ⟨_, PSs.nox (pss_cons (ps_set (i := 5) sc_law_right.nd rfl (Or.inl rfl) pe_str)
      (pss_cons (ps_if (pt_not (pt_val (pe_cl c_law_sound hr (by decide) pass0 (pa_cons (pv 4) pa_nil))))
        (pss_one (ps_set (i := 5) sc_law_right.nd rfl (Or.inl rfl) pe_str))
        (pss_one (ps_if (pt_cmpR op_lt (pe_ix ix_tup (pv 4) pe_int (fun _ _ => rfl)) (pe_op op_shl (pe_op op_mul pe_int (pe_ix ix_tup (pv 4) pe_int (fun _ _ => rfl))) (pe_ix ix_tup (pv 1) pe_int (fun _ _ => rfl))) (nomark _))
          (pss_one (ps_set (i := 5) sc_law_right.nd rfl (Or.inl rfl) pe_str))
          pss_nil)))
      (pss_cons (ps_set (i := 6) sc_law_right.nd rfl (Or.inl rfl) (pe_cl c_law_count hr (by decide) pass0 (pa_cons (pv 1) (pa_cons (pv 2) (pa_cons (pv 3) (pa_cons (pv 4) pa_nil))))))
      (pss_cons (ps_if (pt_cmpR op_ne (pe_callB (call_repr hg hu10) (by rfl) g_repr (by decide +kernel) (pa_cons (pe_cl c_law_count hr (by decide) pass0 (pa_cons (pv 1) (pa_cons (pv 2) (pa_cons (pv 3) (pa_cons (pv 4) pa_nil))))) pa_nil)) (pe_callB (call_repr hg hu10) (by rfl) g_repr (by decide +kernel) (pa_cons (pv 6) pa_nil)) (nomark _))
        (pss_one (ps_ret pe_bl))
        pss_nil)
      (pss_cons (ps_if (pt_cmpR op_ne (pv 5) pe_str (nomark _))
        (pss_cons (ps_setLc (i := 8) (own := [("_law_index", 7)]) rfl sc_law_right.nd rfl rfl (sw_true rfl rfl rfl (by decide +kernel)) (pi_list (pe_lst (pa_cons pe_int (pa_cons (pe_un un_neg pe_int) (pa_cons pe_non pa_nil))))) (blkOk_by (N := ["_law_deck_here", "_law_form_here", "_law_way", "_law_word", "_law_row_here", "_law_due", "_law_found", "_law_index", "_law_told_here", "_law_wrong_here", "_law_k"]) (sc := defScope s_law_right) (by decide +kernel)) (fun _ _ _ _ _ => by exact (pg_name (i := 7) sc_law_right.nd rfl (Or.inl rfl))) (fun _ _ _ _ _ => pts_nil) (fun _ _ _ _ _ => (pe_clG c_law_at hg hr (by decide) pass0 (pa_cons (pv 1) (pa_cons (pv 2) (pa_cons (pv 3) (pa_cons (pv 4) (pa_cons (pv 7) pa_nil))))))))
        (pss_one (ps_ret (pe_and (pe_cmpR (op_eqD hu64) (pv 6) (pe_lst (pa_cons (pv 5) (pa_cons (pe_ix ix_tup (pv 4) pe_int (fun _ _ => rfl)) (pa_cons pe_bl pa_nil)))) (nomark _)) (pe_one (pe_cmpR (op_eqD hu64) (pv 8) (pe_op op_rep (pe_lst (pa_cons (pe_lst (pa_cons (pv 5) (pa_cons (pe_ix ix_tup (pv 4) pe_int (fun _ _ => rfl)) pa_nil))) pa_nil)) pe_int) (nomark _)))))))
        pss_nil)
      (pss_cons (ps_set (i := 9) sc_law_right.nd rfl (Or.inl rfl) (pe_cl c_law_wrong hr (by decide) pass0 (pa_cons (pv 1) (pa_cons (pv 2) (pa_cons (pv 4) (pa_cons (pe_op op_sub (pe_op op_shl pe_int (pv 3)) pe_int) pa_nil))))))
      (pss_cons (ps_if (PW.pt (pw_or (pt_not (pt_val (pe_cl c_law_whole hr (by decide) pass0 (pa_cons (pv 6) pa_nil)))) (pw_or1 (pt_cmpR op_ne (pv 6) (pe_callB call_len (by rfl) g_len (by decide +kernel) (pa_cons (pv 9) pa_nil)) (nomark _)))))
        (pss_one (ps_ret pe_bl))
        pss_nil)
      (pss_cons (ps_for PassesOwn.never rfl (pi_list (pe_cl c_law_indexes hr (by decide) pass0 (pa_cons (pv 0) (pa_cons (pe_callB call_len (by rfl) g_len (by decide +kernel) (pa_cons (pv 9) pa_nil)) pa_nil)))) (pg_name (i := 7) sc_law_right.nd rfl (Or.inl rfl))
        (pss_cons (ps_set (i := 8) sc_law_right.nd rfl (Or.inl rfl) (pe_clG c_law_at hg hr (by decide) pass0 (pa_cons (pv 1) (pa_cons (pv 2) (pa_cons (pv 3) (pa_cons (pv 4) (pa_cons (pv 7) pa_nil)))))))
        (pss_one (ps_if (PW.pt (pw_and (pt_val (pe_cl c_law_whole hr (by decide) pass0 (pa_cons (pv 7) pa_nil))) (pw_and1 (pt_chain op_le op_lt pe_int (pv 7) (pe_callB call_len (by rfl) g_len (by decide +kernel) (pa_cons (pv 9) pa_nil))))))
          (pss_one (ps_if (PW.pt (pw_or (pt_not (pt_val (pe_cl c_law_whole hr (by decide) pass0 (pa_cons (pv 8) pa_nil)))) (pw_or1 (pt_cmpR op_ne (pv 8) (pe_ix ix_list (pv 9) (pv 7) (fun _ _ => rfl)) (nomark _)))))
            (pss_one (ps_ret pe_bl))
            pss_nil))
          (pss_one (ps_if (pt_cmpR (op_neD hu64) (pv 8) (pe_lst (pa_cons pe_str (pa_cons (pe_callB (call_repr hg hu10) (by rfl) g_repr (by decide +kernel) (pa_cons (pv 7) pa_nil)) (pa_cons pe_bl (pa_cons pe_bl pa_nil))))) (nomark _))
            (pss_one (ps_ret pe_bl))
            pss_nil))))))
      (pss_one (ps_ret (pe_cmpR (op_eqD hu64) (pe_lc (own := [("_law_k", 10)]) rfl sc_law_right.nd (pi_range1 (by rfl) g_range (pa_cons (pe_callB (call_min2 rfl) (by rfl) g_min (by decide +kernel) (pa_cons pe_int (pa_cons (pe_callB call_len (by rfl) g_len (by decide +kernel) (pa_cons (pv 9) pa_nil)) pa_nil))) pa_nil)) (blkOk_by (N := ["_law_deck_here", "_law_form_here", "_law_way", "_law_word", "_law_row_here", "_law_due", "_law_found", "_law_index", "_law_told_here", "_law_wrong_here", "_law_k"]) (sc := defScope s_law_right) (by decide +kernel)) (fun _ _ _ _ _ => by exact (pg_name (i := 10) sc_law_right.nd rfl (Or.inl rfl))) (fun _ _ _ _ _ => pts_nil) (fun _ _ _ _ _ => (pe_clG c_law_at hg hr (by decide) pass0 (pa_cons (pv 1) (pa_cons (pv 2) (pa_cons (pv 3) (pa_cons (pv 4) (pa_cons (pv 10) pa_nil)))))))) (pe_slice sl_list (pv 9) po_none (po_some pe_int)) (nomark _)))))))))))), ?_⟩
    have hQ0 : ∀ H', Same H H' → Q (.bl true) H' := fun H' s1 => hQ H' cells k (Same.d s1) (dk.same s1) (by omega)
    -- behind the two tests
    refine seq_have2 (A := tAsg (tC (.str "")) (gName 5)) (B := tIfS _ _ _) (T := tSeq _ _) (fun σ' H' => ∃ du : Str, σ' = [some (.ref a), some (.ref fa), some (.str (wayS wy)), some (.int (wd : Int)), some (.ref ra), some (.str du), none, none, none, none, none] ∧ H' = H ∧
      ((du = "" ∧ r.Sound ∧ r.Fine f) ∨ (du = "NotSound" ∧ ¬ r.Sound) ∨ (du = "Coarse" ∧ r.Sound ∧ ¬ r.Fine f))) ?_ fun rest => ?_
    · rintro σ' H0 ⟨du, rfl, hH, hdu⟩
      obtain rfl := hH.symm
      have sb := cnt_shB br f wy w8
      refine ⟨_, rfl, _, rfl, _, rfl, _, rfl, fa, ra, f, wy, wd, r, rfl, hf, bf, w1, w8, ha, br, fun H1 x s1 cx => ?_⟩
      refine ⟨_, rfl, _, rfl, _, rfl, _, rfl, fa, ra, f, wy, wd, r, rfl, s1 _ _ hf, bf, w1, w8, s1 _ _ ha, br, fun H2 y s2 cy => ?_⟩
      refine ⟨y, _, rfl, cy.1, shB_size sb, ?_⟩
      refine ⟨_, rfl, x, _, rfl, cx.1.same s2, shB_size sb, rfl, _, rfl, iteNS rfl ?_⟩
      have s12 := s1.trans s2
      refine ⟨_, rfl, rfl, _, rfl, ?_⟩
      by_cases hne : du = ""
      · -- sound, not coarse
        obtain ⟨so, fi⟩ : r.Sound ∧ r.Fine f := by
          rcases hdu with ⟨_, z1, z2⟩ | ⟨z, _⟩ | ⟨z, _⟩
          · exact ⟨z1, z2⟩
          · rw [hne] at z; exact absurd z (by decide)
          · rw [hne] at z; exact absurd z (by decide)
        obtain rfl := cx.2.1 so fi
        refine iteNS (by rw [hne]) ?_
        have wl := wrongs_len r f wy w8
        have ewd : (1 : Int) * 2 ^ ((wd : Nat) : Int).toNat - 1 = lastOf wd := by
          unfold lastOf
          rw [Int.one_mul, Int.toNat_natCast]
        refine ⟨_, rfl, _, rfl, _, rfl, _, rfl, _, _, rfl, rfl, ⟨by omega, by omega, by decide⟩, _, _, rfl, rfl, fa, ra, f, wy, wd, r, ?_, s12 _ _ hf, bf, w1, w8, s12 _ _ ha, br, so, fun H3 wq s3 nwq hwq => ?_⟩
        · show [V.ref fa, V.str (wayS wy), V.ref ra, V.int ((1 : Int) * 2 ^ ((wd : Nat) : Int).toNat - 1)] = _
          rw [ewd]
        have s13 := s12.trans s3
        generalize hws : wrongs r f wy wd = ws at wl hwq
        have lenE : (ws.map V.int).length = ws.length := List.length_map ..
        have lenF : ((ws.length : Nat) : Int) = ((ws.map V.int).length : Nat) := by rw [lenE]
        refine ⟨_, rfl, _, _, rfl, .int _, _, rfl, iteF ?_⟩
        refine ⟨_, rfl, _, rfl, .ref wq, ws.length, rfl, .inl ⟨_, SqL.of hwq, lenE.symm⟩, rfl, _, rfl, iteNS rfl ?_⟩
        -- the loop over the indexes
        have dk3 := dk.same s13
        refine ⟨_, rfl, _, rfl, .ref wq, ws.length, rfl, .inl ⟨_, SqL.of hwq, lenE.symm⟩, a, c, cells, k, _, rfl, dk3, hk, by omega, by omega, fun H4 cells4 q v1 v2 t l d s4 dk4 ix v10 v11 v20 v21 => ?_⟩
        have sall : SameD a c H H4 := (Same.d s13).trans s4
        have hf4 : FoAt H4 fa f := dk.keep sall hf
        have ha4 : RowAt H4 ra r := dk.keep sall ha
        have hwq4 : H4 wq = some (.lst (ws.map V.int)) := by
          have n0 : H wq = none := none_back s12 nwq
          exact s4 _ _ (fun e => ne_of_none dk.1 n0 e.symm) (fun e => ne_of_none dk.2.1 n0 e.symm) hwq
        refine ⟨q, rfl, ⟨_, SqL.of ix.q⟩, for_list (K := K) (a := q) (xs := [.int 0, .int ((ws.length : Int) - 1), .int (ws.length : Int), .int (-1), .int (10 ^ 40), .non, .bl true, .bl false, .str "0", .ref t, .ref l, .ref d, .int v1, .int (0 - 1 - v2)]) (fun i σ H' => ∃ v7 v8, σ = [some (.ref a), some (.ref fa), some (.str (wayS wy)), some (.int (wd : Int)), some (.ref ra), some (.str du), some (.int (ws.length : Int)), v7, v8, some (.ref wq), none] ∧ Same H4 H')
          ⟨none, none, rfl, fun _ _ e => e⟩ (fun i σ H' _ ⟨_, _, _, q1⟩ => SqL.of (q1 _ _ ix.q)) ?_ ?_⟩
        · rintro i x σ H5 hx ⟨v7, v8, rfl, s5⟩
          obtain ⟨b, d, iz⟩ := ix_ok (K := K) ix (by omega) (by omega) v10 v11 v20 v21 (List.mem_of_getElem? hx)
          have iz5 := iz.same s5
          have hwq5 := s5 _ _ hwq4
          refine ⟨_, rfl, _, rfl, _, rfl, _, rfl, _, rfl, fa, ra, f, wy, wd, r, x, b, d, rfl, s5 _ _ hf4, bf, w1, w8, s5 _ _ ha4, br, iz5, fun H6 y s6 at6 => ?_⟩
          have s46 := s5.trans s6
          have iz6 := iz5.same s6
          have hwq6 := s6 _ _ hwq5
          have told := at6.2.2 so fi
          rw [hws] at told
          refine ⟨_, rfl, x, b, rfl, iz6.wh _ (fun _ _ e => e), _, rfl, ?_⟩
          rcases told with ⟨i0, z, rfl, hz, rfl⟩ | ⟨no, p, rfl, hp⟩
          · obtain rfl : b = true := by
              cases b with
              | true => rfl
              | false => exact absurd rfl (iz.no rfl (i0 : Int))
            have hi0 := (List.getElem?_eq_some_iff.mp hz).1
            have hat : atI (ws.map V.int) (i0 : Int) = some (.int z) := by
              unfold atI ixN
              rw [lenE, if_pos (show (0 : Int) ≤ (i0 : Int) by omega), if_pos (show (i0 : Int) < (ws.length : Int) by omega)]
              show (ws.map V.int)[((i0 : Nat) : Int).toNat]? = _
              rw [Int.toNat_natCast, List.getElem?_map, hz]; rfl
            refine iteT ⟨_, rfl, _, _, rfl, rfl, _, rfl, ?_⟩
            rw [decide_eq_true (show (0 : Int) ≤ (i0 : Int) by omega)]
            refine iteT ⟨_, rfl, .ref wq, ws.length, rfl, .inl ⟨_, SqL.of hwq6, lenE.symm⟩, _, _, rfl, rfl, _, rfl, ?_⟩
            rw [decide_eq_true (show (i0 : Int) < (ws.length : Int) by omega)]
            refine iteT ⟨_, rfl, _, _, rfl, .int _, _, rfl, iteF ?_⟩
            refine ⟨_, rfl, _, rfl, _, rfl, wq, _, (i0 : Int), .int z, rfl, rfl, SqL.of hwq6, hat, rfl, _, rfl, iteNS rfl ?_⟩
            exact ⟨some (.int (i0 : Int)), some (.int z), rfl, s46⟩
          · have oe : ∀ (D : Ends) (A B : TS), (∀ H', Same H4 H' → B D [some (.ref a), some (.ref fa), some (.str (wayS wy)), some (.int (wd : Int)), some (.ref ra), some (.str du), some (.int (ws.length : Int)), some x, some (.ref p), some (.ref wq), none] H') →
                tIfS (tTest (tOp (rNeD K) (tVar 8) (tLst (tCons (tC (.str "NoIndex")) (tCons (tCB rRepr (tCons (tVar 7) tNil)) (tCons (tC (.bl true)) (tCons (tC (.bl false)) tNil))))))) A B D [some (.ref a), some (.ref fa), some (.str (wayS wy)), some (.int (wd : Int)), some (.ref ra), some (.str du), some (.int (ws.length : Int)), some x, some (.ref p), some (.ref wq), none] H6 := by
              intro D A B hB
              exact elif_off (x := x) (p := p) (d := d) rfl rfl hp iz6.sh iz.ok fun H' s' => hB H' (s46.trans s')
            rcases (Bool.eq_false_or_eq_true b).symm with hb | hb
            · rw [hb]
              exact iteF (iteF (oe _ _ _ fun H' s' => ⟨some x, some (.ref p), rfl, s'⟩))
            · rw [hb]
              obtain ⟨i1, hi1⟩ := iz.yes hb
              have out := no i1 hi1
              refine iteT ⟨_, rfl, 0, i1, rfl, hi1, _, rfl, ?_⟩
              by_cases h0 : 0 ≤ i1
              · rw [decide_eq_true h0]
                refine iteT ⟨_, rfl, .ref wq, ws.length, rfl, .inl ⟨_, SqL.of hwq6, lenE.symm⟩, i1, _, hi1, rfl, _, rfl, ?_⟩
                rw [decide_eq_false (show ¬ i1 < (ws.length : Int) by omega)]
                exact iteF (oe _ _ _ fun H' s' => ⟨some x, some (.ref p), rfl, s'⟩)
              · rw [decide_eq_false h0]
                exact iteF ⟨_, rfl, iteF (oe _ _ _ fun H' s' => ⟨some x, some (.ref p), rfl, s'⟩)⟩
        · rintro σ H5 ⟨v7, v8, rfl, s5⟩
          have hwq5 := s5 _ _ hwq4
          have hmm : ((if (ws.length : Int) < 9 then (ws.length : Int) else 9).toNat) ≤ ws.length ∧ ((if (ws.length : Int) < 9 then (ws.length : Int) else 9).toNat) ≤ 9 ∧ ws.take ((if (ws.length : Int) < 9 then (ws.length : Int) else 9).toNat) = ws.take 9 := by
            by_cases h9 : (ws.length : Int) < 9
            · rw [if_pos h9, Int.toNat_natCast]
              exact ⟨Nat.le_refl _, by omega, by rw [List.take_length, List.take_of_length_le (by omega)]⟩
            · rw [if_neg h9]
              exact ⟨by show 9 ≤ ws.length; omega, Nat.le_refl 9, rfl⟩
          refine ⟨_, rfl, .ref wq, ws.length, rfl, .inl ⟨_, SqL.of hwq5, lenE.symm⟩, _, _, rfl, _, rfl, by split <;> omega, by split <;> omega, fun D hD => ?_⟩
          generalize ((if (ws.length : Int) < 9 then (ws.length : Int) else 9).toNat) = mm at hmm
          obtain ⟨m1, m9, mt⟩ := hmm
          refine lc_range (n := mm) (fun i H' => Same H5 H' ∧ H' D = some (.lst ((ws.take i).map V.int))) ⟨same_of_upd hD, upd_same⟩ (fun i H6 hi ⟨s6, l6⟩ => ?_) (fun H6 ⟨s6, l6⟩ => ?_)
          · have s46 := s5.trans s6
            refine ⟨rfl, yes_it (iteT ?_)⟩
            refine ⟨_, rfl, _, rfl, _, rfl, _, rfl, _, rfl, fa, ra, f, wy, wd, r, .int (0 + (i : Int)), true, .int (0 + (i : Int)), rfl, s46 _ _ hf4, bf, w1, w8, s46 _ _ ha4, br, idx_small (by omega) (by omega), fun H7 y s7 at7 => ?_⟩
            have told := at7.2.2 so fi
            rw [hws] at told
            rcases told with ⟨i0, z, e, hz, rfl⟩ | ⟨no, _⟩
            · obtain rfl : i0 = i := by
                have := V.int.inj e
                omega
              refine ⟨_, s7 _ _ l6, ?_, same_up (s6.trans s7) hD, ?_⟩
              · rw [List.length_map, List.length_take]
                show min i0 ws.length < 2 ^ 24
                omega
              · rw [upd_same, List.take_succ, hz, List.map_append]; rfl
            · have := no _ rfl
              omega
          · refine ⟨_, rfl, 9, rfl, wq, _, rfl, SqL.of (s6 _ _ hwq5), fun B hB => ?_⟩
            have c9 : cutV (ws.map V.int) none (some 9) = (ws.take 9).map V.int := by
              unfold cutV
              rw [show HT.sIx (ws.map V.int).length 0 none = 0 from rfl, show (some (9 : Int)) = some ((9 : Nat) : Int) from rfl, HT.sIx_nat, lenE, List.drop_zero, Nat.sub_zero, ← List.map_take]
              congr 1
              by_cases h9 : ws.length ≤ 9
              · rw [show min 9 ws.length = ws.length by omega, List.take_length, List.take_of_length_le h9]
              · rw [show min 9 ws.length = 9 by omega]
            rw [c9]
            rw [mt] at l6
            have sB := same_of_upd (o := .lst ((ws.take 9).map V.int)) hB
            refine ⟨_, _, .lst (SqL.of (sB _ _ l6)) (dp_ints _), .lst (SqL.of upd_same) (dp_ints _), shaped_ints _, shaped_ints _, ?_⟩
            rw [eqv_self (shaped_ints _)]
            have sE := (s5.trans s6).trans sB
            exact hQ _ cells4 (k + 2) (sall.trans (Same.d sE)) (dk4.same sE) (Int.le_refl _)
      · refine iteNT (fun z => hne (V.str.inj z)) ?_
        have hbad : (du = "NotSound" ∧ ¬ r.Sound) ∨ (du = "Coarse" ∧ r.Sound ∧ ¬ r.Fine f) := by
          rcases hdu with ⟨z, _⟩ | z
          · exact absurd z hne
          · exact z
        have hx : ∃ p, x = .ref p ∧ H1 p = some (.lst [.str du, .int r.P, .bl true]) := by
          rcases hbad with ⟨rfl, ns⟩ | ⟨rfl, so, nf⟩
          · exact cx.2.2.1 ns
          · exact cx.2.2.2 so nf
        have hat : ∀ {H' : Hp} {y x : V} {d : PyData}, AtIs H' y r f wy wd x d → ∃ p, y = .ref p ∧ H' p = some (.lst [.str du, .int r.P]) := fun {H' y x d} h => by
          rcases hbad with ⟨rfl, ns⟩ | ⟨rfl, so, nf⟩
          · exact h.1 ns
          · exact h.2.1 so nf
        have hdo : PyData.canLay0 (.str du) = true := by
          rcases hbad with ⟨rfl, _⟩ | ⟨rfl, _⟩ <;> decide +kernel
        obtain ⟨px, rfl, hpx⟩ := hx
        refine ⟨_, rfl, (by show 3 ≤ sizeLine; decide), fun sp hsp => ?_⟩
        have s3 := same_of_upd (o := .lst [.int 0, .int (-1), .non]) hsp
        have l3 : upd H2 sp (.lst [.int 0, .int (-1), .non]) sp = some (.lst [.int 0, .int (-1), .non]) := upd_same
        generalize upd H2 sp (.lst [.int 0, .int (-1), .non]) = H3 at s3 l3
        have s13 := s12.trans s3
        refine ⟨sp, rfl, ⟨_, SqL.of l3⟩, fun D hD => lc_list (K := K) (a := sp) (xs := [.int 0, .int (-1), .non]) (fun i H' => Same H3 H' ∧ ∃ ps : List Addr, H' D = some (.lst (ps.map V.ref)) ∧ ps.length = i ∧ ∀ p ∈ ps, H' p = some (.lst [.str du, .int r.P]))
          ⟨same_of_upd hD, [], upd_same, rfl, fun p hp => nomatch hp⟩ (fun i H' hi ⟨q1, _⟩ => SqL.of (q1 _ _ l3)) (fun i z H' hz ⟨q1, ps, q2, q3, q4⟩ => ?_) (fun H' ⟨q1, ps, q2, q3, q4⟩ => ?_)⟩
        · have iz : ∃ b d, IdxOk K H' z b d := by
            match i, hz with
            | 0, hz => cases hz; exact ⟨_, _, idx_small (by decide) (by decide)⟩
            | 1, hz => cases hz; exact ⟨_, _, idx_small (by decide) (by decide)⟩
            | 2, hz => cases hz; exact ⟨_, _, idx_non⟩
            | n + 3, hz => cases hz
          have i3 : i < 3 := (List.getElem?_eq_some_iff.mp hz).1
          obtain ⟨b, d, iz⟩ := iz
          have s14 := s13.trans q1
          refine ⟨rfl, yes_it (iteT ?_)⟩
          refine ⟨_, rfl, _, rfl, _, rfl, _, rfl, _, rfl, fa, ra, f, wy, wd, r, z, b, d, rfl, s14 _ _ hf, bf, w1, w8, s14 _ _ ha, br, iz, fun H5 y2 s5 at5 => ?_⟩
          obtain ⟨p5, rfl, hp5⟩ := hat at5
          refine ⟨ps.map V.ref, s5 _ _ q2, ?_, same_up (q1.trans s5) hD, ps ++ [p5], ?_, ?_, fun p hp => ?_⟩
          · rw [List.length_map, q3]
            show i < 2 ^ 24
            omega
          · rw [upd_same, List.map_append]; rfl
          · rw [List.length_append, q3]; rfl
          · have nD : ∀ {p : Addr}, H5 p = some (.lst [.str du, .int r.P]) → p ≠ D := fun {p} e => ne_of e (s5 _ _ q2) fun z => by
              cases ps with
              | nil => cases z
              | cons u us => cases z
            rcases List.mem_append.mp hp with hp | hp
            · have e := s5 _ _ (q4 p hp)
              rw [upd_ne (nD e)]; exact e
            · rw [List.mem_singleton.mp hp, upd_ne (nD hp5)]; exact hp5
        · obtain ⟨p0, p1, p2, rfl⟩ : ∃ p0 p1 p2, ps = [p0, p1, p2] := by
            match ps, q3 with
            | [p0, p1, p2], _ => exact ⟨p0, p1, p2, rfl⟩
          have s14 := s13.trans q1
          refine ⟨_, rfl, _, rfl, _, rfl, ra, _, 0, .int r.P, rfl, rfl, SqT.of (s14 _ _ ha), rfl, (by show 3 ≤ sizeLine; decide), fun e he => ?_⟩
          have se := same_of_upd (o := .lst [.str du, .int r.P, .bl true]) he
          have le : upd H' e (.lst [.str du, .int r.P, .bl true]) e = some (.lst [.str du, .int r.P, .bl true]) := upd_same
          generalize upd H' e (.lst [.str du, .int r.P, .bl true]) = H5 at se le
          have sh1 : SeqAt.shaped (.list [.str du, .int r.P, .bool true]) = true := by
            show (PyData.canLay0 (.list [.str du, .int r.P, .bool true]) && _) = true
            rw [show PyData.canLay0 (.list [.str du, .int r.P, .bool true]) = true by show (PyData.canLay0 (.str du) && true) = true; rw [hdo]; rfl]
            rfl
          have dp3 : ∀ {H' : Hp} {p : Addr}, H' p = some (.lst [.str du, .int r.P, .bl true]) → Dp K H' (.ref p) (.list [.str du, .int r.P, .bool true]) := fun {H' p} e => .lst (SqL.of e) (.cons (.str _) (.cons (.int _) (.cons (.bl _) .nil)))
          refine ⟨_, _, dp3 (se _ _ (q1 _ _ (s3 _ _ (s2 _ _ hpx)))), dp3 le, sh1, sh1, _, rfl, ?_⟩
          refine ite_eqb (eqv_self sh1) (fun _ => ?_) fun z => Bool.noConfusion z
          have s15 := s14.trans se
          refine ⟨_, rfl, _, rfl, _, rfl, ra, _, 0, .int r.P, rfl, rfl, SqT.of (s15 _ _ ha), rfl, (by show 2 ≤ sizeLine; decide), fun g hg1 => ⟨(by show 1 ≤ sizeLine; decide), fun o ho => ?_⟩⟩
          have sg := same_of_upd (o := .lst [.str du, .int r.P]) hg1
          have lg : upd H5 g (.lst [.str du, .int r.P]) g = some (.lst [.str du, .int r.P]) := upd_same
          generalize upd H5 g (.lst [.str du, .int r.P]) = H6 at sg lg ho
          refine ⟨o, _, _, rfl, rfl, upd_same, by decide, by decide, (by show 1 * 3 ≤ sizeLine; decide), fun v hv => ?_⟩
          have so := same_of_upd (o := .lst [.ref g]) ho
          have sv := same_of_upd (o := .lst [.ref g, .ref g, .ref g]) hv
          have dp2 : ∀ {H' : Hp} {p : Addr}, H' p = some (.lst [.str du, .int r.P]) → Dp K H' (.ref p) (.list [.str du, .int r.P]) := fun {H' p} e => .lst (SqL.of e) (.cons (.str _) (.cons (.int _) .nil))
          have s56 : Same H' (upd (upd H6 o (.lst [.ref g])) v (.lst [.ref g, .ref g, .ref g])) := ((se.trans sg).trans so).trans sv
          have sh2 : SeqAt.shaped (.list [.list [.str du, .int r.P], .list [.str du, .int r.P], .list [.str du, .int r.P]]) = true := by
            have l1 : PyData.canLay0 (.list [.str du, .int r.P]) = true := by show (PyData.canLay0 (.str du) && true) = true; rw [hdo]; rfl
            show (PyData.canLay0 (.list [.list [.str du, .int r.P], .list [.str du, .int r.P], .list [.str du, .int r.P]]) && _) = true
            rw [show PyData.canLay0 (.list [.list [.str du, .int r.P], .list [.str du, .int r.P], .list [.str du, .int r.P]]) = true by show (PyData.canLay0 (.list [.str du, .int r.P]) && (PyData.canLay0 (.list [.str du, .int r.P]) && (PyData.canLay0 (.list [.str du, .int r.P]) && true))) = true; rw [l1]; rfl]
            rfl
          refine ⟨_, _, .lst (SqL.of (s56 _ _ q2)) (.cons (dp2 (s56 _ _ (q4 p0 (by simp)))) (.cons (dp2 (s56 _ _ (q4 p1 (by simp)))) (.cons (dp2 (s56 _ _ (q4 p2 (by simp)))) .nil))), .lst (SqL.of upd_same) (.cons (dp2 (sv _ _ (so _ _ lg))) (.cons (dp2 (sv _ _ (so _ _ lg))) (.cons (dp2 (sv _ _ (so _ _ lg))) .nil))), sh2, sh2, ?_⟩
          rw [eqv_self sh2]
          exact hQ0 _ ((s14.trans s56))
    · refine ⟨_, rfl, ra, r, rfl, ha, br, _, rfl, ?_⟩
      by_cases hs : r.Sound
      · rw [decide_eq_true hs]
        refine iteF ?_
        have := bf.p1
        have := bf.p5
        have := br.h0
        have := br.h3
        refine ⟨_, rfl, ra, _, 1, .int r.g, rfl, rfl, SqT.of ha, rfl, ?_⟩
        refine ⟨_, rfl, ra, _, 3, .int r.h, rfl, rfl, SqT.of ha, rfl, ?_⟩
        refine ⟨_, _, rfl, rfl, .inl ⟨by decide, by decide⟩, ?_⟩
        refine ⟨_, rfl, fa, _, 0, .int f.p, rfl, rfl, SqT.of hf, rfl, ?_⟩
        refine ⟨_, _, rfl, rfl, ⟨by omega, by omega, by omega⟩, _, _, rfl, rfl, _, rfl, ?_⟩
        have e : (r.g < 2 * r.h * 2 ^ (f.p : Int).toNat) ↔ ¬ r.Fine f := by
          unfold Row.Fine
          rw [Int.toNat_natCast]
          omega
        by_cases hF : r.Fine f
        · rw [decide_eq_false (fun z => e.mp z hF)]
          exact iteF (rest _ _ ⟨_, rfl, rfl, .inl ⟨rfl, hs, hF⟩⟩)
        · rw [decide_eq_true (e.mpr hF)]
          exact iteT (rest _ _ ⟨_, rfl, rfl, .inr (.inr ⟨rfl, hs, hF⟩)⟩)
      · rw [decide_eq_false hs]
        exact iteT (rest _ _ ⟨_, rfl, rfl, .inr (.inl ⟨rfl, hs⟩)⟩)
end
end K45
/-! ## W29 -/
namespace K45
open PySem PySem.Spec PyProof.Rows L2
def spLaw (K : PySem.W.Frag) : Sp := fun vs H Q _ => ∃ (a : Addr) (ns : List Int), vs = [.ref a] ∧ SqL K H a (ns.map V.int) ∧ ∀ H', Q (.bl true) H'
theorem way_of {x : V} (h : x ∈ [.str (wayS .even), .str (wayS .away), .str (wayS .zero), .str (wayS .out), .str (wayS .odd)]) : ∃ wy, x = .str (wayS wy) := by
  simp only [List.mem_cons, List.not_mem_nil, or_false] at h
  rcases h with rfl | rfl | rfl | rfl | rfl
  · exact ⟨.even, rfl⟩
  · exact ⟨.away, rfl⟩
  · exact ⟨.zero, rfl⟩
  · exact ⟨.out, rfl⟩
  · exact ⟨.odd, rfl⟩
section
variable {P : Program} {w : World} {K : PySem.W.Frag} {mg : Str → Option Value} {base : Heap}
theorem sc_law : FnScope ["_law_script", "_law_deck_here", "_law_turn", "_law_form_here", "_law_row_here"] ["_law_script"] (defScope s_law) := ⟨rfl, rfl, rfl, by decide +kernel, rfl, by decide +kernel, by decide +kernel⟩
theorem cl_law (D : DefAt K mg "law" s_law) (g_range : mg "range" = none) (c_law_deck : Cl P w K mg base CX0 1 "_law_deck" (spDeck K)) (c_law_form : Cl P w K mg base CX0 2 "_law_form" spForm) (c_law_row : Cl P w K mg base CX0 3 "_law_row" spRow) (c_law_power : Cl P w K mg base CX0 3 "_law_power" spPower)
    (c_law_draw : Cl P w K mg base CX0 1 "_law_draw" spDraw) (c_law_pick : Cl P w K mg base CX0 2 "_law_pick" spPick) (c_law_ways : Cl P w K mg base CX0 1 "_law_ways" spWays) (c_law_right : ClG P w K mg base CX0 12 "_law_right" spLRight) : ClG P w K mg base CX0 13 "law" (spLaw K) := by
  refine clG_of D (fun _ _ _ _ _ _ us hl => match us, hl with | [_], _ => rfl) sc_law (fun vs H Q E h => ?_) (fun fp cdv A outer s H vs Q E hg hr h => ?_)
  · obtain ⟨a, ns, rfl, _⟩ := h
    rfl
  · obtain ⟨a, ns, rfl, hs, hQ⟩ := h
    refine ⟨_, PSs.nox (pss_cons (ps_set (i := 1) sc_law.nd rfl (Or.inl rfl) (pe_cl c_law_deck hr (by decide) pass0 (pa_cons (pv 0) pa_nil)))
      (pss_cons (ps_for PassesOwn.never rfl (pi_range1 (by rfl) g_range (pa_cons pe_int pa_nil)) (pg_name (i := 2) sc_law.nd rfl (Or.inl rfl))
        (pss_cons (ps_set (i := 3) sc_law.nd rfl (Or.inl rfl) (pe_cl c_law_form hr (by decide) pass0 (pa_cons (pv 1) pa_nil)))
        (pss_cons (ps_set (i := 4) sc_law.nd rfl (Or.inl rfl) (pe_cl c_law_row hr (by decide) pass0 (pa_cons (pv 1) (pa_cons (pe_cl c_law_power hr (by decide) pass0 (pa_cons (pv 1) (pa_cons (pv 3) pa_nil))) (pa_cons (pe_op op_add pe_int (pe_cl c_law_draw hr (by decide) pass0 (pa_cons (pv 1) (pa_cons pe_int pa_nil)))) pa_nil)))))
        (pss_one (ps_if (pt_not (pt_val (pe_clG c_law_right hg hr (by decide) pass0 (pa_cons (pv 1) (pa_cons (pv 3) (pa_cons (pe_cl c_law_pick hr (by decide) pass0 (pa_cons (pv 1) (pa_cons (pe_cl0 c_law_ways hr (by decide) pass0) pa_nil))) (pa_cons (pe_op op_add pe_int (pe_cl c_law_draw hr (by decide) pass0 (pa_cons (pv 1) (pa_cons pe_int pa_nil)))) (pa_cons (pv 4) pa_nil))))))))
          (pss_one (ps_ret pe_bl))
          pss_nil)))))
      (pss_one (ps_ret pe_bl)))), ?_⟩
    refine ⟨_, rfl, a, ns, rfl, hs, fun H1 p c cells s1 dk => ?_⟩
    refine ⟨9, rfl, by decide, by decide, for_range (n := 9) (fun i σ H' => ∃ cells k v2 v3 v4, σ = [some (.ref a), some (.ref p), v2, v3, v4] ∧ DkAt H' p c cells k ∧ k ≤ 20 * (i : Int)) ⟨cells, 0, none, none, none, rfl, dk, by decide⟩ ?_ ?_⟩
    · rintro i σ H2 hi ⟨cells, k, v2, v3, v4, rfl, dk, hk⟩
      have hi9 : i < 9 := hi
      refine ⟨_, rfl, p, c, cells, k, rfl, dk, by omega, fun H3 cells3 fa f s3 dk3 hf bf => ?_⟩
      refine ⟨_, rfl, _, rfl, _, rfl, p, c, cells3, k + 3, fa, f, rfl, dk3, by omega, hf, bf, fun H4 cells4 P s4 dk4 P0 P1 => ?_⟩
      refine ⟨_, rfl, p, c, cells4, k + 3 + 2, 12, rfl, dk4, by omega, by decide, by decide, fun H5 cells5 v s5 dk5 v0 v1 => ⟨_, _, rfl, rfl, ?_⟩⟩
      refine ⟨p, c, cells5, k + 3 + 2 + 1, P, (1 + v).toNat, ?_, dk5, by omega, P0, P1, by omega, by omega, fun H6 cells6 k6 ra r s6 dk6 hk6 ha br => ?_⟩
      · show [V.ref p, V.int P, V.int (1 + v)] = _
        rw [show (((1 + v).toNat : Nat) : Int) = 1 + v by omega]
      have hf6 : FoAt H6 fa f := dk3.keep ((s4.trans s5).trans s6) hf
      refine ⟨_, rfl, _, rfl, _, rfl, rfl, fun sa hsa => ?_⟩
      have sw := same_of_upd (o := .lst [.str (wayS .even), .str (wayS .away), .str (wayS .zero), .str (wayS .out), .str (wayS .odd)]) hsa
      refine ⟨p, c, cells6, k6, sa, _, rfl, dk6.same sw, by omega, upd_same, fun e => ne_of_none dk6.1 hsa e.symm, fun e => ne_of_none dk6.2.1 hsa e.symm, Nat.le_of_ble_eq_true rfl, Nat.le_of_ble_eq_true rfl, fun H7 cells7 x s7 dk7 hx => ?_⟩
      obtain ⟨wy, rfl⟩ := way_of hx
      refine ⟨_, rfl, p, c, cells7, k6 + 1, 8, rfl, dk7, by omega, by decide, by decide, fun H8 cells8 v8 s8 dk8 v80 v81 => ⟨_, _, rfl, rfl, ?_⟩⟩
      have s68 : SameD p c H6 H8 := ((Same.d sw).trans s7).trans s8
      refine ⟨_, rfl, p, c, cells8, k6 + 1 + 1, fa, ra, f, wy, (1 + v8).toNat, r, ?_, dk8, by omega, dk6.keep s68 hf6, bf, by omega, by omega, dk6.keep s68 ha, br, fun H9 cells9 k9 s9 dk9 hk9 => ?_⟩
      · show [V.ref p, V.ref fa, V.str (wayS wy), V.int (1 + v8), V.ref ra] = _
        rw [show (((1 + v8).toNat : Nat) : Int) = 1 + v8 by omega]
      refine ⟨_, rfl, iteF ?_⟩
      exact ⟨cells9, k9, _, _, _, rfl, dk9, by omega⟩
    · rintro σ H2 ⟨cells, k, v2, v3, v4, rfl, dk, hk⟩
      exact hQ H2
end
end K45
/-! ## H1 -/
namespace K45
open PySem PySem.Spec PyProof.Rows L2
/-! ### the law's call, by a def that is run while no repr runs -/
theorem caller_free : NoRep callerA := rfl
/-- nothing is tracked but the script, held fast; and not even that where it is one of the written part's own -/
def scrH (K : PySem.W.Frag) (a : Addr) (o : Obj) (u : HO) : Hp := fun b => if b = a ∧ (K.lookup a).isNone = true then some (.frz o u) else none
section
variable {K : PySem.W.Frag} {a : Addr} {o : Obj} {u : HO}
theorem scrH_of {b : Addr} {x : HO} (h : scrH K a o u b = some x) : b = a ∧ K.lookup a = none ∧ x = .frz o u := by
  unfold scrH at h
  by_cases c : b = a ∧ (K.lookup a).isNone = true
  · rw [if_pos c] at h
    exact ⟨c.1, Option.isNone_iff_eq_none.mp c.2, (Option.some.inj h).symm⟩
  · rw [if_neg c] at h
    cases h
theorem scrH_other {b : Addr} (h : b ≠ a) : scrH K a o u b = none := if_neg fun c => h c.1
theorem scrH_own {b : Addr} {z : Obj} (h : K.lookup b = some z) : scrH K a o u b = none := by
  cases e : scrH K a o u b with
  | none => rfl
  | some x =>
    obtain ⟨rfl, n, _⟩ := scrH_of e
    rw [n] at h
    cases h
end
theorem lawG {P : Program} {w : World} {K : PySem.W.Frag} {mg mb : Str → Option Value} {k : Nat} {fa a : Addr} {x : Str} {sp : Sp} {s : Shared} {vs : List Value} {ns : List Int}
    (inK : K.In s.heap) (glo : s.heap.Ns mainGlobals mg) (bui : s.heap.Ns builtinsNs mb) (bok : ∀ y : Str, y ≠ "__name__" → mb y = bootBuiltins y) (lim : s.heap.NoLimit) (nog : s.gens = #[])
    (scr : s.heap.get? a = some { cls := .type "list", data := .seq vs.toArray }) (isInts : IntsAre vs ns) (few : ns.length ≤ sizeLine) (room : Room k callerA)
    (here : mg x = some (.ref fa)) (F : ∀ base : Heap, K.In base → base.Ns mainGlobals mg → ClG P w K mg base CX0 k x sp)
    (told : ∀ H : Hp, SqL K H a (ns.map V.int) → sp [.ref a] H (fun v _ => v = .bl true) fun _ _ _ => False) :
    codeAny (model P w) callerA (.call (.ref fa) ⟨[.ref a], []⟩) (fun r s' => r = .ok (.ret (.bool true)) ∧ OldK s.heap s'.heap ∧ s'.os = s.os ∧ AllBare s'.gens) s := by
  have vals := vals_ints isInts
  have size : (ns.map V.int).length ≤ sizeLine := by rw [List.length_map]; exact few
  generalize hH : scrH K a { cls := .type "list", data := .seq vs.toArray } (.lst (ns.map V.int)) = H
  have at_ : ∀ {b : Addr} {z : HO}, H b = some z → b = a ∧ K.lookup a = none ∧ z = .frz { cls := .type "list", data := .seq vs.toArray } (.lst (ns.map V.int)) := by
    intro b z e
    rw [← hH] at e
    exact scrH_of e
  have free : ∀ {b : Addr}, b ≠ a → H b = none := by
    intro b n
    rw [← hH]
    exact scrH_other n
  -- what is not the script stands in the fixed part, too
  have put : ∀ {b : Addr} {z : Obj}, H b = none → s.heap.get? b = some z → (hidT s.heap H).get? b = some z := fun n e => hidT_get e n
  have spaces : ∀ {b : Addr} {m : Str → Option Value}, s.heap.Ns b m → (hidT s.heap H).Ns b m := by
    rintro b m ⟨z, es, ep, e, isd, more⟩
    refine ⟨z, es, ep, put (free fun q => ?_) e, isd, more⟩
    subst q
    rw [scr] at e
    cases e
    cases isd
  have baseK : K.In (hidT s.heap H) := fun b z e => put (by rw [← hH]; exact scrH_own e) (inK b z e)
  have baseL : (hidT s.heap H).NoLimit := by
    obtain ⟨m, q1, q2⟩ := lim
    exact ⟨m, spaces q1, q2⟩
  have holds : HOk P w H s.heap := by
    intro b z e
    obtain ⟨rfl, _, rfl⟩ := at_ e
    exact ⟨scr, size, vs, _, vals, scr⟩
  have isList : SqL K H a (ns.map V.int) := by
    cases hk : K.lookup a with
    | none =>
      refine .inl (.inr ⟨{ cls := .type "list", data := .seq vs.toArray }, ?_⟩)
      rw [← hH]
      exact if_pos ⟨rfl, by rw [hk]; rfl⟩
    | some z =>
      have e := inK a z hk
      rw [scr] at e
      cases e
      exact .inr ⟨_, vs.toArray, _, hk, rfl, rfl, rfl, by rw [List.size_toArray, isInts.length]; exact few, by simpa using vals⟩
  have env : Env0 P w K mg (hidT s.heap H) callerA [] s H := {
    frames := rfl
    mod := ⟨baseK, spaces glo, ⟨mb, spaces bui, bok⟩, baseL⟩
    bs := fun b z e => of_hidT e
    bsz := Nat.le_of_eq (hidT_size s.heap H)
    funs := trivial
    frf := fun b m => by cases m
    hok := holds
    bare := .of_eq nog }
  obtain ⟨f, fd, ps, fn, fAt, _, binds⟩ := (F _ baseK (spaces glo)).ex
  obtain rfl : f = fa := by
    rw [here] at fAt
    cases fAt
    rfl
  have wish : sp [.ref a] H (fun v _ => v = .bl true) fun _ _ _ => False := told H isList
  have bound : BindsTo s fd ⟨[.ref a], []⟩ (ps.zip [.ref a]) := binds s [.ref a] inK (fn.len _ _ _ _ wish)
  have run := fn.run callerA [] s H ⟨[.ref a], []⟩ [.ref a] [.ref a] (fun v _ => v = .bl true) (fun _ _ _ => False) caller_free room env bound (.cons rfl .nil) wish
  refine codeAny_mono run ?_
  rintro (e | fl) s' h
  · exact False.elim h
  · cases fl with
    | ret u =>
      obtain ⟨v, H', sameOs, bare, un, ok', rel, rfl⟩ := h
      cases rel
      refine ⟨rfl, OldK.of_keep fun b z e => ?_, sameOs, bare⟩
      cases q : H b with
      | none => exact un.keep b z e q (fun m => by cases m) (fun m => by cases m)
      | some y =>
        have y2 := q
        obtain ⟨rfl, _, rfl⟩ := at_ y2
        have still := ok' _ _ (un.frzs _ _ _ q)
        rw [scr] at e
        cases e
        exact still.1
    | next => exact False.elim h
    | brk => exact False.elim h
    | cont => exact False.elim h
end K45
/-! ## H2 -/
namespace K45
open PySem PySem.Spec PySem.W PySem.Calls PyProof.Rows L2
/-! ### what the head is asked of the three error classes -/
theorem xk_power : XKp where
  F := PySem.F.excBase_ValueError
  KF := kxs_ValueError
  l1 := by decide +kernel
  l2 := by decide +kernel
  l3 := by decide +kernel
  ns := by decide
  nd := by decide
  bd := fun p1 p2 a b f h1 h2 h3 => by
    obtain ⟨n1, n2, n3, n4, n5, n6, n7, n8, n9, n10, n11, n12, n13, n14, n15⟩ := f
    dsimp only at h1 h2 h3
    subst h1 h2 h3
    rfl
theorem xk_index : XKi where
  F := PySem.F.excBase_LookupError
  KF := kxs_LookupError
  l1 := by decide +kernel
  l2 := by decide +kernel
  l3 := by decide +kernel
  ns := by decide
  nd := by decide
  bd := fun p1 p2 a b f h1 h2 h3 => by
    obtain ⟨n1, n2, n3, n4, n5, n6, n7, n8, n9, n10, n11, n12, n13, n14, n15⟩ := f
    dsimp only at h1 h2 h3
    subst h1 h2 h3
    rfl
/-- what the two tell -/
structure ExF (P : Program) (K : Frag) (nm fld : Str) (B newId initId : String) (tl : List Value) : Prop where
  at_ : nsIn K mainGlobals nm = some (some (.ref (He.ga K nm)))
  eC : ExcC K (He.ga K nm)
  fC : XfC K (He.ga K nm)
  nC : findIn K (.ref (He.ga K nm)) fld = some none
  txt : ∀ {h : Heap} {mg : Str → Option Value}, K.In h → mg nm = some (.ref (He.ga K nm)) → mg "super" = none → ExTxt P K mg nm fld B newId initId tl (He.ga K nm) (iniA K nm)
theorem exF_of {P : Program} {K : Frag} {nm fld qn : Str} {B newId initId : String} {tl : List Value} {p1 p2 q1 q2 q3 q4 q5 q6 q7 q8 q9 q10 : Pos} (SF : StoreFacts B tl "object.__setattr__" "object")
    (c : clsB K nm fld B newId initId tl = true) (i : iniB P.main.file K nm = true) (d : iniO K nm = iniV fld qn p1 p2 q1 q2 q3 q4 q5 q6 q7 q8 q9 q10)
    (sup : SupEq fld q1 q2 q3 q4 q5) (top : (P.main.scope.names.lookup ("super" : Str)).isSome = false) : ExF P K nm fld B newId initId tl := by
  unfold clsB at c
  simp only [Bool.and_eq_true, decide_eq_true_eq] at c
  obtain ⟨⟨c1, c2⟩, c3, c4, c5, c6, c7, c8, c9, c10, c11, c12, c13, c14, c15, c16, c17, c18, c19, c20⟩ := c
  have c1 := He.eqO_ok c1
  have c4 := He.eqO_ok c4
  have c5 := He.eqO_ok c5
  have c6 := He.eqO_ok c6
  have c7 := He.eqO_ok c7
  have c8 := He.eqO_ok c8
  have c17 := He.eqO_ok c17
  have c18 := He.eqO_ok c18
  have c19 := He.eqO_ok c19
  refine ⟨c1, ⟨c5, c6, c11, c14, c18, c19, c20, c16⟩, ⟨c5, c6, c11, c14⟩, c7, fun {h mg} X gC gsu => ?_⟩
  obtain ⟨nm', N, qn', bs, bm, hd, sn, sub, ab, col, dd, k0, k1, k2, k3, k5, hC, cont⟩ := excInit_of X c2
  have c2' := c2
  unfold excInitIn at c2'
  obtain ⟨oC, lC⟩ : ∃ oC, K.lookup (He.ga K nm) = some oC := by
    cases e : K.lookup (He.ga K nm) with
    | none => rw [e] at c2'; cases c2'
    | some o => exact ⟨o, rfl⟩
  have eC := X _ _ lC
  rw [hC] at eC
  cases eC
  have kc : clsIn K (He.ga K nm) = some { name := nm', bases := bs, mro := .ref (He.ga K nm) :: bm, ns := N, qualname := qn', hasDict := hd, slotNames := sn, subclasses := sub, abstract := ab, collection := col, hasDel := false } := by
    unfold clsIn
    rw [lC]
  have hh : hd = true := by
    unfold hasDictIn at c14
    rw [kc] at c14
    exact c14
  subst hh
  rw [kc] at c3
  obtain ⟨ht, hal⟩ := Bool.and_eq_true_iff.mp (show (excTail tl bm && decide (alongIn K "__init__" bm = some (some (.builtin initId)))) = true from c3)
  unfold iniB at i
  unfold iniO iniV at d
  cases q : K.lookup (iniA K nm) with
  | none => rw [q] at i; cases i
  | some o =>
    obtain ⟨oc, od, dt, osl⟩ := o
    rw [q] at i d
    cases dt with
    | func fd =>
      obtain ⟨n1, n2, n3, n4, n5, n6, n7, n8, n9, n10, n11, n12, n13, n14, n15⟩ := fd
      simp only [Option.some.injEq, Prod.mk.injEq] at d
      obtain ⟨rfl, rfl, rfl, rfl, rfl, rfl, rfl⟩ := d
      dsimp only at i
      split at i
      · rename_i n cc cda
        simp only [Bool.and_eq_true, decide_eq_true_eq] at i
        obtain ⟨rfl, i2, i3, i4⟩ := i
        have hv : ∃ ccl cdd vs ccs file tf, K.lookup cda = some ⟨ccl, cdd, .fields vs, ccs⟩ ∧ vs[2]? = some (.str file tf) ∧ ((P.main.file : Str) == file) = true := by
          split at i3
          · rename_i z1 z2 vs z3 w1
            split at i3
            · rename_i fl z4 w2
              exact ⟨_, _, vs, _, fl, z4, w1, w2, i3⟩
            · cases i3
          · cases i3
        have hc : ∃ cl cld csl, K.lookup cc = some ⟨cl, cld, .cell (some (.ref (He.ga K nm))), csl⟩ := by
          split at i4
          · rename_i z1 z2 C z3 w1
            obtain rfl := of_decide_eq_true i4
            exact ⟨_, _, _, w1⟩
          · cases i4
        obtain ⟨ccl, cdd, vs, ccs, file, tf, v1, v2, v3⟩ := hv
        obtain ⟨cl, cld, csl, u1⟩ := hc
        exact ⟨gC, ⟨nm', qn', N, bs, bm, sn, sub, ab, col, dd, k0, k1, k2, k3, k5, lC, cont, fun self => by rw [refuseLoop_ref]; exact excTail_pass self (SF.passes self) _ ht, of_decide_eq_true hal⟩, c4, c5, c6, c7, c8, c9, c10, c11, c12, c13, c14, c15, c16, c17, gsu,
          ⟨oc, od, n10, n11, n12, cda, n14, osl, p1, p2, q1, q2, q3, q4, q5, q6, q7, q8, q9, q10, cc, ccl, cl, cdd, cld, ccs, csl, vs, file, tf, _, q, i2, v1, v2, v3, u1, sup⟩, top⟩
      · cases i
    | _ => cases i
end K45
/-! ## H4 -/
namespace K45
open PySem PySem.Spec PyProof.Rows L2
/-! ### all defs keep their promises, by what the look told -/
theorem sup_eq : SupEq "power" ⟨27, 8, 27, 13⟩ ⟨27, 8, 27, 15⟩ ⟨27, 8, 27, 24⟩ ⟨27, 25, 27, 30⟩ ⟨27, 8, 27, 31⟩ ∧ SupEq "power" ⟨32, 8, 32, 13⟩ ⟨32, 8, 32, 15⟩ ⟨32, 8, 32, 24⟩ ⟨32, 25, 32, 30⟩ ⟨32, 8, 32, 31⟩ ∧
    SupEq "index" ⟨37, 8, 37, 13⟩ ⟨37, 8, 37, 15⟩ ⟨37, 8, 37, 24⟩ ⟨37, 25, 37, 30⟩ ⟨37, 8, 37, 31⟩ :=
  ⟨fun env => ⟨_, rfl⟩, fun env => ⟨_, rfl⟩, fun env => ⟨_, rfl⟩⟩
theorem top_super : (R.prog.main.scope.names.lookup ("super" : Str)).isSome = false := by kernel_rfl
section
variable {K : PySem.W.Frag} {mg : Str → Option Value} {heap : Heap}
theorem def_at (X : K.In heap) (G : heap.Ns mainGlobals mg) (c : He.SaysD faL fnL K) {x : Str} {st : Stmt} (i j : Nat) (h : fnL[i]? = some (dOf x st) := by rfl) (g : faL[j]? = some (.glo x) := by rfl) : DefAt K mg x st := by
  obtain ⟨fd, F⟩ := c.def_ i h
  exact ⟨He.ga K x, fd, F, He.glo_ok X G (c.fact j g)⟩
/-- defs of two names are two -/
theorem def_ne {x y : Str} {s1 s2 : Stmt} {f : Addr} (a : DefAt K mg x s1) (b : DefAt K mg y s2) (h1 : mg x = some (.ref f)) (h2 : mg y = some (.ref f)) : x = y := by
  obtain ⟨f1, d1, F1, m1⟩ := a.ex
  obtain ⟨f2, d2, F2, m2⟩ := b.ex
  rw [h1] at m1
  rw [h2] at m2
  cases m1
  cases m2
  obtain ⟨_, _, _, _, _, _, _, _, _, _, rfl, l1, _⟩ := F1.ex
  obtain ⟨_, _, _, _, _, _, _, _, _, _, rfl, l2, _⟩ := F2.ex
  rw [l1] at l2
  exact congrArg (fun o : Option Obj => match o with
    | some ⟨_, _, .func fd, _⟩ => fd.name
    | _ => x) l2
theorem all_kept (X : K.In heap) (G : heap.Ns mainGlobals mg) (look : lookX K = dueX) (w : World) (base : Heap) : ClG R.prog w K mg base CX0 13 "law" (spLaw K) := by
  have c : He.SaysD faL fnL K := congrArg (fun z : AlX => z.1) look
  have lB : lookB K = true := congrArg (fun z : AlX => z.2.1) look
  have i1 : iniO K "NotSound" = iv_NotSound := congrArg (fun z : AlX => z.2.2.1) look
  have i2 : iniO K "Coarse" = iv_Coarse := congrArg (fun z : AlX => z.2.2.2.1) look
  have i3 : iniO K "NoIndex" = iv_NoIndex := congrArg (fun z : AlX => z.2.2.2.2) look
  have d_is_whole : DefAt K mg "is_whole" s_is_whole := def_at X G c 0 0
  have d_ten : DefAt K mg "ten" s_ten := def_at X G c 1 1
  have d_power_fraction : DefAt K mg "power_fraction" s_power_fraction := def_at X G c 2 2
  have d_shifted : DefAt K mg "shifted" s_shifted := def_at X G c 3 3
  have d_floor_log : DefAt K mg "floor_log" s_floor_log := def_at X G c 4 4
  have d_half_of : DefAt K mg "half_of" s_half_of := def_at X G c 5 5
  have d_count_of : DefAt K mg "count_of" s_count_of := def_at X G c 6 6
  have d_run_slope : DefAt K mg "run_slope" s_run_slope := def_at X G c 7 7
  have d_top_slope : DefAt K mg "top_slope" s_top_slope := def_at X G c 8 8
  have d_is_above : DefAt K mg "is_above" s_is_above := def_at X G c 9 9
  have d_exponent_of : DefAt K mg "exponent_of" s_exponent_of := def_at X G c 10 10
  have d_start_of : DefAt K mg "start_of" s_start_of := def_at X G c 11 11
  have d_cuts_of : DefAt K mg "cuts_of" s_cuts_of := def_at X G c 12 12
  have d_pieces : DefAt K mg "pieces" s_pieces := def_at X G c 13 13
  have d_position_line : DefAt K mg "position_line" s_position_line := def_at X G c 14 14
  have d_read_stair : DefAt K mg "read_stair" s_read_stair := def_at X G c 15 15
  have d_up_stair : DefAt K mg "up_stair" s_up_stair := def_at X G c 16 16
  have d_half_stair : DefAt K mg "half_stair" s_half_stair := def_at X G c 17 17
  have d_below_half_stair : DefAt K mg "below_half_stair" s_below_half_stair := def_at X G c 18 18
  have d_beyond_code : DefAt K mg "beyond_code" s_beyond_code := def_at X G c 19 19
  have d_stair_on : DefAt K mg "stair_on" s_stair_on := def_at X G c 20 20
  have d_pairs : DefAt K mg "pairs" s_pairs := def_at X G c 21 21
  have d_value_at : DefAt K mg "value_at" s_value_at := def_at X G c 22 22
  have d_first_turn : DefAt K mg "first_turn" s_first_turn := def_at X G c 23 23
  have d_next_turn : DefAt K mg "next_turn" s_next_turn := def_at X G c 24 24
  have d_sum_of_turn : DefAt K mg "sum_of_turn" s_sum_of_turn := def_at X G c 25 25
  have d_sum_rows : DefAt K mg "sum_rows" s_sum_rows := def_at X G c 26 26
  have d_sum_of : DefAt K mg "sum_of" s_sum_of := def_at X G c 27 27
  have d_sum_of_stair : DefAt K mg "sum_of_stair" s_sum_of_stair := def_at X G c 28 28
  have d_is_sound : DefAt K mg "is_sound" s_is_sound := def_at X G c 29 29
  have d_check_sound : DefAt K mg "check_sound" s_check_sound := def_at X G c 30 30
  have d_run_kind : DefAt K mg "run_kind" s_run_kind := def_at X G c 31 31
  have d_wrong_pairs : DefAt K mg "wrong_pairs" s_wrong_pairs := def_at X G c 32 32
  have d_wrong_steps : DefAt K mg "wrong_steps" s_wrong_steps := def_at X G c 33 33
  have d_steps_between : DefAt K mg "steps_between" s_steps_between := def_at X G c 34 34
  have d_count_in : DefAt K mg "count_in" s_count_in := def_at X G c 35 35
  have d_place_in : DefAt K mg "place_in" s_place_in := def_at X G c 36 36
  have d_at_in : DefAt K mg "at_in" s_at_in := def_at X G c 37 37
  have d_check_fine : DefAt K mg "check_fine" s_check_fine := def_at X G c 38 38
  have d_count_wrong : DefAt K mg "count_wrong" s_count_wrong := def_at X G c 39 39
  have d_wrong_at : DefAt K mg "wrong_at" s_wrong_at := def_at X G c 40 40
  have d_law_deck : DefAt K mg "_law_deck" s_law_deck := def_at X G c 41 41
  have d_law_draw : DefAt K mg "_law_draw" s_law_draw := def_at X G c 42 42
  have d_law_pick : DefAt K mg "_law_pick" s_law_pick := def_at X G c 43 43
  have d_law_whole : DefAt K mg "_law_whole" s_law_whole := def_at X G c 44 44
  have d_law_ten : DefAt K mg "_law_ten" s_law_ten := def_at X G c 45 45
  have d_law_cut : DefAt K mg "_law_cut" s_law_cut := def_at X G c 46 46
  have d_law_slope : DefAt K mg "_law_slope" s_law_slope := def_at X G c 47 47
  have d_law_values : DefAt K mg "_law_values" s_law_values := def_at X G c 48 48
  have d_law_told : DefAt K mg "_law_told" s_law_told := def_at X G c 49 49
  have d_law_codes : DefAt K mg "_law_codes" s_law_codes := def_at X G c 50 50
  have d_law_form : DefAt K mg "_law_form" s_law_form := def_at X G c 51 51
  have d_law_power : DefAt K mg "_law_power" s_law_power := def_at X G c 52 52
  have d_law_row : DefAt K mg "_law_row" s_law_row := def_at X G c 53 53
  have d_law_sound : DefAt K mg "_law_sound" s_law_sound := def_at X G c 54 54
  have d_law_ways : DefAt K mg "_law_ways" s_law_ways := def_at X G c 55 55
  have d_law_wrong : DefAt K mg "_law_wrong" s_law_wrong := def_at X G c 56 56
  have d_law_indexes : DefAt K mg "_law_indexes" s_law_indexes := def_at X G c 57 57
  have d_law_count : DefAt K mg "_law_count" s_law_count := def_at X G c 58 58
  have d_law_at : DefAt K mg "_law_at" s_law_at := def_at X G c 59 59
  have d_law_right : DefAt K mg "_law_right" s_law_right := def_at X G c 60 60
  have d_law : DefAt K mg "law" s_law := def_at X G c 61 61
  have f_len : mg "len" = none := He.free_ok X G (c.fact 63 (f := .free "len") rfl)
  have f_int : mg "int" = none := He.free_ok X G (c.fact 64 (f := .free "int") rfl)
  have f_range : mg "range" = none := He.free_ok X G (c.fact 65 (f := .free "range") rfl)
  have f_max : mg "max" = none := He.free_ok X G (c.fact 66 (f := .free "max") rfl)
  have f_min : mg "min" = none := He.free_ok X G (c.fact 67 (f := .free "min") rfl)
  have f_sum : mg "sum" = none := He.free_ok X G (c.fact 68 (f := .free "sum") rfl)
  have f_tuple : mg "tuple" = none := He.free_ok X G (c.fact 69 (f := .free "tuple") rfl)
  have f_zip : mg "zip" = none := He.free_ok X G (c.fact 70 (f := .free "zip") rfl)
  have f_sorted : mg "sorted" = none := He.free_ok X G (c.fact 71 (f := .free "sorted") rfl)
  have f_isinstance : mg "isinstance" = none := He.free_ok X G (c.fact 72 (f := .free "isinstance") rfl)
  have f_bool : mg "bool" = none := He.free_ok X G (c.fact 73 (f := .free "bool") rfl)
  have f_list : mg "list" = none := He.free_ok X G (c.fact 74 (f := .free "list") rfl)
  have f_repr : mg "repr" = none := He.free_ok X G (c.fact 75 (f := .free "repr") rfl)
  have f_abs : mg "abs" = none := He.free_ok X G (c.fact 76 (f := .free "abs") rfl)
  have f_super : mg "super" = none := He.free_ok X G (c.fact 77 (f := .free "super") rfl)
  have f_LookupError : mg "LookupError" = none := He.free_ok X G (c.fact 78 (f := .free "LookupError") rfl)
  have f_ValueError : mg "ValueError" = none := He.free_ok X G (c.fact 79 (f := .free "ValueError") rfl)
  have f_ZERO := He.str_ok X G (c.fact 80 rfl)
  have f_ODD := He.str_ok X G (c.fact 81 rfl)
  have f_SMALL := He.int_ok X G (c.fact 82 rfl)
  unfold lookB at lB
  simp only [Bool.and_eq_true] at lB
  obtain ⟨⟨cS, bS⟩, ⟨cC, bC⟩, ⟨cI, bI⟩, eB⟩ := lB
  unfold errB at eB
  simp only [Bool.and_eq_true, decide_eq_true_eq] at eB
  obtain ⟨e1, e2, e3, e4, e5, e6, e7, e8, e9, e10, k1, k2, k3, k4⟩ := eB
  have xS := exF_of (P := R.prog) PySem.F.store_ValueError cS bS i1 sup_eq.1 top_super
  have xC := exF_of (P := R.prog) PySem.F.store_ValueError cC bC i2 sup_eq.2.1 top_super
  have xI := exF_of (P := R.prog) PySem.F.store_LookupError cI bI i3 sup_eq.2.2 top_super
  have gS := PySem.W.mg_of X G xS.at_
  have gC := PySem.W.mg_of X G xC.at_
  have gI := PySem.W.mg_of X G xI.at_
  have t_NotSound := xS.txt X gS f_super
  have t_Coarse := xC.txt X gC f_super
  have t_NoIndex := xI.txt X gI f_super
  have EF : ErrF K mg (He.ga K "NotSound") (He.ga K "Coarse") (He.ga K "NoIndex") (He.ga K "NumberError") :=
    ⟨gS, gC, gI, He.glo_ok X G (c.fact 62 (f := .glo "NumberError") rfl), f_isinstance, f_repr, f_LookupError, f_ValueError, e1, e2, e3, e4, e5, e6, xS.eC, xC.eC, xI.eC, xS.fC, xC.fC, xI.fC, xS.nC, xC.nC, xI.nC, e7, e8, e9, e10⟩
  have c_ten := cl_ten (P := R.prog) (w := w) (base := base) d_ten
  have c_power_fraction := cl_pf (P := R.prog) (w := w) (base := base) d_power_fraction c_ten
  have c_shifted := cl_shift (P := R.prog) (w := w) (base := base) d_shifted
  have c_floor_log := cl_log (P := R.prog) (w := w) (base := base) d_floor_log c_shifted
  have c_half_of := cl_half (P := R.prog) (w := w) (base := base) d_half_of
  have c_count_of := cl_count (P := R.prog) (w := w) (base := base) d_count_of c_half_of
  have c_run_slope := cl_run (P := R.prog) (w := w) (base := base) d_run_slope c_shifted
  have c_top_slope := cl_top (P := R.prog) (w := w) (base := base) d_top_slope c_shifted
  have c_is_above := cl_above (P := R.prog) (w := w) (base := base) d_is_above
  have c_exponent_of := cl_exp (P := R.prog) (w := w) (base := base) d_exponent_of f_min f_max c_floor_log
  have c_start_of := cl_start (P := R.prog) (w := w) (base := base) d_start_of f_max
  have c_position_line := cl_posl (P := R.prog) (w := w) (base := base) d_position_line f_max
  have c_read_stair := cl_read_stair (P := R.prog) (w := w) (base := base) d_read_stair
  have c_up_stair := cl_up_stair (P := R.prog) (w := w) (base := base) d_up_stair
  have c_half_stair := cl_half_stair (P := R.prog) (w := w) (base := base) d_half_stair
  have c_below_half_stair := cl_below_half_stair (P := R.prog) (w := w) (base := base) d_below_half_stair
  have fnk : ∀ {x : Str} {f : Addr}, PySem.W.isFn K (.ref (He.ga K x)) = true → mg x = some (.ref (He.ga K x)) → mg x = some (.ref f) → FnK K f := fun {x f} h1 h2 h3 => by
    rw [h2] at h3
    cases h3
    exact h1
  have g_read_stair : mg "read_stair" = some (.ref (He.ga K "read_stair")) := He.glo_ok X G (c.fact 15 (f := .glo "read_stair") rfl)
  have g_up_stair : mg "up_stair" = some (.ref (He.ga K "up_stair")) := He.glo_ok X G (c.fact 16 (f := .glo "up_stair") rfl)
  have g_half_stair : mg "half_stair" = some (.ref (He.ga K "half_stair")) := He.glo_ok X G (c.fact 17 (f := .glo "half_stair") rfl)
  have g_below_half_stair : mg "below_half_stair" = some (.ref (He.ga K "below_half_stair")) := He.glo_ok X G (c.fact 18 (f := .glo "below_half_stair") rfl)
  have KA : KindsAt R.prog w K mg base := by
    refine ⟨fun k => ?_, fun k f h => ?_, fun k k' f h h' => ?_⟩
    · cases k
      · exact c_read_stair
      · exact c_up_stair
      · exact c_half_stair
      · exact c_below_half_stair
    · cases k
      · exact fnk k1 g_read_stair h
      · exact fnk k2 g_up_stair h
      · exact fnk k3 g_half_stair h
      · exact fnk k4 g_below_half_stair h
    · have kd : ∀ k, ∃ st, DefAt K mg (kindN k) st := fun k => by
        cases k
        · exact ⟨_, d_read_stair⟩
        · exact ⟨_, d_up_stair⟩
        · exact ⟨_, d_half_stair⟩
        · exact ⟨_, d_below_half_stair⟩
      obtain ⟨_, a⟩ := kd k
      obtain ⟨_, b⟩ := kd k'
      have e := def_ne a b h h'
      cases k <;> cases k' <;> first | rfl | exact absurd e (by decide)
  have c_beyond_code := cl_beyond_code (P := R.prog) (w := w) (base := base) d_beyond_code c_count_of f_ZERO f_ODD
  have c_stair_on := cl_stair_on (P := R.prog) (w := w) (base := base) d_stair_on KA c_position_line c_beyond_code
  have c_value_at := cl_value_at (P := R.prog) (w := w) (base := base) d_value_at
  have c_first_turn := cl_first_turn (P := R.prog) (w := w) (base := base) d_first_turn f_max
  have c_next_turn := cl_next_turn (P := R.prog) (w := w) (base := base) d_next_turn f_SMALL
  have c_sum_of_turn := cl_sum_of_turn (P := R.prog) (w := w) (base := base) d_sum_of_turn f_SMALL f_sum f_range c_value_at
  have c_sum_rows := cl_sum_rows (P := R.prog) (w := w) (base := base) d_sum_rows f_tuple c_first_turn c_next_turn c_sum_of_turn
  have c_sum_of := cl_sum_of (P := R.prog) (w := w) (base := base) d_sum_of c_sum_rows
  have c_sum_of_stair := cl_sum_of_stair (P := R.prog) (w := w) (base := base) d_sum_of_stair f_sum c_sum_of
  have c_steps_between := cl_steps_between (P := R.prog) (w := w) (base := base) d_steps_between c_sum_of_stair
  have c_count_in := cl_count_in (P := R.prog) (w := w) (base := base) d_count_in f_sum c_steps_between
  have c_place_in := cl_place_in (P := R.prog) (w := w) (base := base) d_place_in c_steps_between
  have c_is_whole := cl_is_whole (P := R.prog) (w := w) (base := base) d_is_whole f_isinstance f_int f_bool
  have c_is_sound := cl_is_sound (P := R.prog) (w := w) (base := base) d_is_sound c_power_fraction c_is_above c_run_slope c_top_slope
  have c_run_kind := cl_run_kind (P := R.prog) (w := w) (base := base) d_run_kind KA
  have c_cuts_of := cl_cuts_of (P := R.prog) (w := w) (base := base) d_cuts_of f_range f_sorted c_exponent_of c_start_of
  have c_pairs := cl_pairs (P := R.prog) (w := w) (base := base) d_pairs d_pieces f_zip KA c_cuts_of c_exponent_of c_stair_on
  have c_wrong_pairs := cl_wrong_pairs (P := R.prog) (w := w) (base := base) d_wrong_pairs KA c_power_fraction c_run_slope c_is_above c_pairs c_run_kind
  have c_wrong_steps := cl_wrong_steps (P := R.prog) (w := w) (base := base) d_wrong_steps f_ODD KA c_power_fraction c_run_slope c_is_above c_pairs c_wrong_pairs
  have c_check_sound := cl_check_sound (P := R.prog) (w := w) (base := base) d_check_sound xk_power t_NotSound c_is_sound
  have c_check_fine := cl_check_fine (P := R.prog) (w := w) (base := base) d_check_fine xk_power t_Coarse c_check_sound
  have c_at_in := cl_at_in (P := R.prog) (w := w) (base := base) d_at_in xk_index t_NoIndex c_is_whole c_steps_between c_place_in
  have c_count_wrong := cl_count_wrong (P := R.prog) (w := w) (base := base) d_count_wrong c_check_fine c_count_in c_wrong_steps
  have c_wrong_at := cl_wrong_at (P := R.prog) (w := w) (base := base) d_wrong_at c_check_fine c_at_in c_wrong_steps
  have c_law_count := cl_law_count (P := R.prog) (w := w) (base := base) d_law_count EF c_count_wrong
  have c_law_at := cl_law_at (P := R.prog) (w := w) (base := base) d_law_at EF c_wrong_at
  have c_law_draw := cl_law_draw (P := R.prog) (w := w) (base := base) d_law_draw f_len f_int
  have c_law_ten := cl_law_ten (P := R.prog) (w := w) (base := base) d_law_ten f_range
  have c_law_pick := cl_law_pick (P := R.prog) (w := w) (base := base) d_law_pick f_len c_law_draw
  have c_law_whole := cl_law_whole (P := R.prog) (w := w) (base := base) d_law_whole f_isinstance f_int f_bool
  have c_law_deck := cl_law_deck (P := R.prog) (w := w) (base := base) d_law_deck f_abs
  have c_law_cut := cl_law_cut (P := R.prog) (w := w) (base := base) d_law_cut f_int c_law_ten
  have c_law_slope := cl_law_slope (P := R.prog) (w := w) (base := base) d_law_slope f_max c_law_ten
  have c_law_sound := cl_law_sound (P := R.prog) (w := w) (base := base) d_law_sound f_max c_law_ten
  have c_law_told := cl_law_told (P := R.prog) (w := w) (base := base) d_law_told f_int
  have c_law_form := cl_law_form (P := R.prog) (w := w) (base := base) d_law_form c_law_draw
  have c_law_row := cl_law_row (P := R.prog) (w := w) (base := base) d_law_row f_max c_law_draw c_law_cut
  have c_law_power := cl_law_power (P := R.prog) (w := w) (base := base) d_law_power c_law_draw c_law_pick
  have c_law_values := cl_law_values (P := R.prog) (w := w) (base := base) d_law_values f_list f_range
  have c_law_codes := cl_law_codes (P := R.prog) (w := w) (base := base) d_law_codes f_len f_int f_range c_law_values c_law_told
  have c_law_wrong := cl_law_wrong (P := R.prog) (w := w) (base := base) d_law_wrong f_int f_range c_law_codes c_law_slope
  have c_law_ways := cl_law_ways (P := R.prog) (w := w) (base := base) d_law_ways
  have c_law_indexes := cl_law_indexes (P := R.prog) (w := w) (base := base) d_law_indexes f_max c_law_draw
  have c_law_right := cl_law_right (P := R.prog) (w := w) (base := base) d_law_right f_repr f_len f_min f_range c_law_sound c_law_count c_law_at c_law_wrong c_law_whole c_law_indexes
  have c_law := cl_law (P := R.prog) (w := w) (base := base) d_law f_range c_law_deck c_law_form c_law_row c_law_power c_law_draw c_law_pick c_law_ways c_law_right
  exact c_law
end
end K45
/-! ## H5 -/
namespace K45
open PySem PySem.Spec PyProof.Rows L2
theorem law_room : Room 13 callerA := ⟨rfl, by decide, by decide⟩
theorem law_at_call {q : Program} {loose : List Str} {XP : (Str → Option Value) → Heap → Prop} {d : DefRec} (name : d.name = ("law" : Str)) (plain : d.params.defaults = []) :
    PySem.W.WalkO q loose XP hkX.says R.toRowW d [] (fun f vs => PySem.call f vs) := by
  refine Att.attach_call (l := PySem.Challenge.rw_numbertexts_k45_whole_wrong_numbers_coun) (n := 63) rfl plain fun w s₀ s₁ mg mb fa o pm cd doc a vs ns ground says _ _ _ here scr isInts few noGens => ?_
  obtain ⟨part, isIn, look⟩ := says
  rw [name] at here
  exact lawG isIn ground.T.g ground.T.b ground.T.builtins ground.T.nolimit noGens scr isInts (Nat.le_trans few (by decide)) law_room here (fun base _ _ => all_kept isIn ground.T.g look w base) fun H isList => ⟨a, ns, rfl, isList, fun _ => rfl⟩
end K45
open PySem PySem.W PySem.Calls PyProof.Rows
set_option maxRecDepth 100000 in
set_option maxHeartbeats 0 in
theorem PySem.Challenge.cw_numbertexts_k45_whole_wrong_numbers_coun_holds : PySem.Challenge.rw_numbertexts_k45_whole_wrong_numbers_coun.Holds := by
  w_on; o_law
  refine HandSHeadRun.head_any (r := OpenLaw.row PySem.Challenge.rw_numbertexts_k45_whole_wrong_numbers_coun) (q := view (OpenLaw.row PySem.Challenge.rw_numbertexts_k45_whole_wrong_numbers_coun).prog [79]) (H := K45.hkX) (ob := K45.obX) (M := 8000) (loose := K45.names)
    (d := HandSHeadRun.topDef (OpenLaw.row PySem.Challenge.rw_numbertexts_k45_whole_wrong_numbers_coun).prog 79) (kwd := []) K45.obX_eq
    (by kernel_rfl) (fun s => by kernel_rfl) K45.runX (by kernel_rfl) (by kernel_rfl) (by kernel_rfl) (by rfl) (by first | assumption | decide +kernel) (by decide +kernel) ⟨rfl, rfl, rfl, rfl, rfl, by decide +kernel⟩ ?hw ?hc
  case hw => w_witness2
  case hc => exact K45.law_at_call (by kernel_rfl) (by kernel_rfl)
