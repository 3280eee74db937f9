import PyProof.Rows.All
import Wide.All
import OpenK.AllK
import Wide.FinOn
import HandS.ForMost
import HandS.EndBits
import HandS.Wide
import HandS.WideBits
import HandS.IsInst
import HandS.MakeKwOnly
import PyProof.ReprRoads
import HandS.Walk
import HandS.OwnEq
import HandS.Property
import HandS.Conv
import HandS.TupAny
import HandS.FStr
import HandS.TupLen
import KE.GoesMore
import KE.GoesEnum
import HandS.NoneIn
import HandS.More
import KE.KSuper
import HandS.SortKw
import KE.KCallOwn
import HandS.ClsMeth
import HandS.Defaults
import HandS.Head0
import HandS.Head1
import HandS.Head2
import HandS.HeadHook1
import HandS.HeadHook2
import HandS.Set
import HandS.SetTxt0
import HandS.Comp
import KE.SortData
import HandS.SetBool
import HandS.DictComp
import HandS.TupSets
import PyProof.Rows.SetFrom
import HandS.Strs
import HandS.Rev
import HandS.RevTup
import PySem.Challenge.RW_momentcalls_k07_calls_made
set_option Elab.async false
set_option linter.all false
set_option maxRecDepth 100000
set_option maxHeartbeats 0
namespace Mo
open PySem PySem.Spec PyProof.Rows L2
def seven : List String := ["NoneType", "bool", "int", "str", "tuple", "list", "dict"]
/-- all of it as one truth -/
def famChk (K : PySem.W.Frag) (C : Addr) (attrs : List Str) : Bool :=
  PySem.W.plainGet K C Str.empty && PySem.W.hasDictIn K C && PySem.W.plainOver K C && (PySem.W.findIn K (.ref C) "__setattr__" == some (some (.builtin "object.__setattr__"))) && (PySem.W.mroIn K C (.type "object") == some true) &&
  attrs.all (fun f => PySem.W.findIn K (.ref C) f == some none) && (PySem.W.findIn K (.ref C) "__ne__" == some (some (.builtin "object.__ne__"))) && (PySem.W.findIn K (.ref C) "__class__" == some (some (.builtin "object.__class__"))) &&
  seven.all (fun n => PySem.W.notFirst K C (.type n) && (PySem.W.subIn K (.type n) (.ref C) == some false)) && PySem.W.isClsIn K C && (PySem.W.typeIn K (.ref C) == some (.type "type"))
/-- the classes of a family, one beside the other -/
def tabChk (K : PySem.W.Frag) (cs : List Addr) : Bool := (List.range cs.length).all fun i => (List.range cs.length).all fun j => (PySem.W.subIn K (.ref (cs.getD i 0)) (.ref (cs.getD j 0)) == some (i == j)) && ((cs.getD i 0 == cs.getD j 0) == (i == j)) && PySem.W.notFirst K (cs.getD i 0) (.ref (cs.getD j 0))
end Mo
namespace Mo
open PySem PySem.Spec PyProof.Rows L2
abbrev FnI : Type := Option (Str × Str × Arguments × FuncBody × Scope × Addr × List Str × Addr)
def fnI (K : PySem.W.Frag) (a : Addr) : FnI := match K.lookup a with
  | some ⟨_, _, .func fd, _⟩ => some (fd.name, fd.qualname, fd.params, fd.body, fd.scope, fd.globals, fd.closure.map (·.1), fd.builtins)
  | _ => none
def fnV (name qual : Str) (st : Stmt) (cl : List Str) : FnI := some (name, qual, defArgs st, .stmts (defBody st), defScope st, mainGlobals, cl, builtinsNs)
def fdOf (K : PySem.W.Frag) (a : Addr) : FuncData := match K.lookup a with
  | some ⟨_, _, .func fd, _⟩ => fd
  | _ => default
def noDfl (K : PySem.W.Frag) (a : Addr) : Bool := match (fdOf K a).defaults with
  | .none => true
  | _ => false
def fnB (K : PySem.W.Frag) (a : Addr) (qual : Str) : Bool := PySem.W.keepIn K (.ref a) && (PySem.W.codeIn K (fdOf K a).code qual && noDfl K a)
def dtOf (K : PySem.W.Frag) (a : Addr) : Addr := match (fdOf K a).defaults with
  | .ref T => T
  | _ => 0
def dxOf (K : PySem.W.Frag) (a : Addr) (j : Nat) : Addr := match K.lookup (dtOf K a) with
  | some ⟨_, _, .seq its _, _⟩ => (match its.toList[j]? with
    | some (.ref x) => x
    | _ => 0)
  | _ => 0
def tup0B (K : PySem.W.Frag) (x : Addr) : Bool := match K.lookup x with
  | some ⟨.type c, _, .seq its _, _⟩ => decide (c = "tuple") && its.toList.isEmpty
  | _ => false
/-- a default that is nothing: none; an empty tuple: some -/
def dvB (K : PySem.W.Frag) (a : Addr) (ks : List Bool) : Bool := match K.lookup (dtOf K a) with
  | some ⟨_, _, .seq its _, _⟩ => decide (its.toList = ks.zipIdx.map fun k => if k.1 then Value.ref (dxOf K a k.2) else Value.none)
  | _ => false
def hasDfl (K : PySem.W.Frag) (a : Addr) : Bool := match (fdOf K a).defaults with
  | .ref _ => true
  | _ => false
def fnDB (K : PySem.W.Frag) (a : Addr) (qual : Str) (ks : List Bool) : Bool := PySem.W.keepIn K (.ref a) && (PySem.W.codeIn K (fdOf K a).code qual && (hasDfl K a && (dvB K a ks && (ks.zipIdx.all fun k => !k.1 || tup0B K (dxOf K a k.2)))))
def cellOf (K : PySem.W.Frag) (a : Addr) : Addr := match (fdOf K a).closure with
  | [(_, c)] => c
  | _ => 0
def fileB (P : Program) (K : PySem.W.Frag) (cd : Value) : Bool := match cd with
  | .ref c => (match K.lookup c with
    | some ⟨_, _, .fields vs, _⟩ => (match ((vs : Array Value)[2]? : Option Value) with
      | some (.str file _) => ((P.main.file : Str) == file)
      | _ => false)
    | _ => false)
  | _ => false
def cellB (K : PySem.W.Frag) (c D : Addr) : Bool := match K.lookup c with
  | some ⟨_, _, .cell (some (.ref d)), _⟩ => decide (d = D)
  | _ => false
def sfnB (P : Program) (K : PySem.W.Frag) (a D : Addr) (qual : Str) : Bool := PySem.W.keepIn K (.ref a) && (PySem.W.codeIn K (fdOf K a).code qual && (fileB P K (fdOf K a).code && (cellB K (cellOf K a) D && PySem.W.isClsIn K D)))
def tokOf (K : PySem.W.Frag) (x : Str) : Tok := match PySem.W.nsIn K mainGlobals x with
  | some (some (.str _ t)) => t
  | some (some (.int _ t)) => t
  | _ => 0
def pgOf (K : PySem.W.Frag) (p : Addr) : Addr := match PySem.W.recIn K p "property" with
  | some (.ref g :: _) => g
  | _ => 0
def prB (K : PySem.W.Frag) (p : Addr) : Bool := decide (PySem.W.specialIn K (.ref p) "__get__" = some (some (.builtin "property.__get__"))) && (decide (PySem.W.takesIn K (.ref p) = some true) && (match PySem.W.recIn K p "property" with
  | some (.ref _ :: _) => true
  | _ => false))
def tupSB (K : PySem.W.Frag) (x : Str) (ws : List Str) : Bool := He.tupB K x (ws.map .str)
def conB (K : PySem.W.Frag) (C : Addr) (f z : Str) : Bool := match PySem.W.findIn K (.ref C) f with
  | some (some (.str y t)) => decide (y = z) && decide (PySem.W.specialIn K (.str y t) "__get__" = some none)
  | _ => false
def cvalB (K : PySem.W.Frag) (C : Addr) (f z : Str) : Bool := match PySem.W.findCls K (.ref C) (.type "type") f with
  | some (.val (.str y _)) => decide (y = z)
  | _ => false
def sdflB (K : PySem.W.Frag) (a : Addr) (ks : List Bool) : Bool := hasDfl K a && (dvB K a ks && (ks.zipIdx.all fun k => !k.1 || tup0B K (dxOf K a k.2)))
end Mo
namespace Mo
open PySem PySem.Spec PyProof.Rows L2
def addL {α : Type} (mask : Nat) (acc : List Addr) (k : Nat → List Addr → α) : List Addr → α
  | [] => k mask acc
  | a :: as => HandSHeadRun.frNat a fun a => match Nat.beq (Nat.land (Nat.shiftRight mask a) 1) 1 with
    | true => addL mask acc k as
    | false => HandSHeadRun.frNat (Nat.lor mask (Nat.shiftLeft 1 a)) fun m => addL m (a :: acc) k as
def levL {α : Type} (g : Addr → Option Obj) (mask : Nat) (acc : List Addr) (k : Nat → List Addr → α) : List Addr → α
  | [] => k mask acc
  | a :: fr => match g a with
    | some o => addL mask acc (fun m acc => levL g m acc k fr) (He.refsD o)
    | none => levL g mask acc k fr
def growL (g : Addr → Option Obj) : Nat → Nat → List Addr → List Addr → List Addr
  | 0, _, all, _ => all
  | n + 1, m, all, fr => levL g m [] (fun m new => growL g n m (all ++ new) new) fr
def asB (g : Addr → Option Obj) (n : Nat) : List Addr := addL 0 [] (fun m fr => sysModules :: growL g n m fr fr) [cStatics, mainGlobals]
def hookB (n : Nat) (chk : PySem.W.Frag → List Bool) (fns : PySem.W.Frag → List FnI) (vals : List FnI) : PySem.W.Hook where
  α := Bool × List FnI
  obs := fun s => ((chk (He.frG s.heap.get? (asB s.heap.get? n))).all id, fns (He.frG s.heap.get? (asB s.heap.get? n)))
  val := fun _ => (true, vals)
  says := fun _ h => ∃ K : PySem.W.Frag, K.In h ∧ (chk K).all id = true ∧ fns K = vals
  of := fun _ _ e => ⟨_, He.frG_in, congrArg (fun z : Bool × List FnI => z.1) e, congrArg (fun z : Bool × List FnI => z.2) e⟩
  keeps := fun _ _ _ ⟨K, hK, c⟩ k => ⟨K, PySem.W.Frag.In.keeps hK k, c⟩
def obB (n : Nat) (chk : PySem.W.Frag → List Bool) (fns : PySem.W.Frag → List FnI) (g : Addr → Option Obj) : Bool × List FnI := ((chk (He.frG g (asB g n))).all id, fns (He.frG g (asB g n)))
end Mo
set_option Elab.async false
set_option linter.all false
set_option maxRecDepth 100000
set_option maxHeartbeats 4000000
namespace K07
open PySem PySem.Spec PyProof.Rows L2 Mo
def P : Program := PySem.Challenge.pw_momentcalls_k07_calls_made
def topS (i : Nat) : Stmt := PySem.Challenge.pw_momentcalls_k07_calls_made.main.body.getD i (.Pass ⟨0, 0, 0, 0⟩)
abbrev st_is_name : Stmt := topS 17
abbrev st_is_operand : Stmt := topS 18
abbrev st_check_name : Stmt := topS 19
abbrev st_check_operand : Stmt := topS 20
abbrev st_coded : Stmt := topS 23
abbrev st_coded_rows : Stmt := topS 24
abbrev st_moved : Stmt := topS 25
abbrev st_rows_of : Stmt := topS 26
abbrev st_parts_of_row : Stmt := topS 27
abbrev st_place_of : Stmt := topS 28
abbrev st_Statement___init__ : Stmt := inClass (topS 38) 1
abbrev st_Statement_amount : Stmt := inClass (topS 38) 2
abbrev st_Statement_level : Stmt := inClass (topS 38) 3
abbrev st_Statement___eq__ : Stmt := inClass (topS 38) 4
abbrev st_Statement___str__ : Stmt := inClass (topS 38) 5
abbrev st_Statement___repr__ : Stmt := inClass (topS 38) 6
abbrev st_Look___init__ : Stmt := inClass (topS 39) 1
abbrev st_Put___init__ : Stmt := inClass (topS 40) 1
abbrev st_Swap___init__ : Stmt := inClass (topS 41) 1
abbrev st_Try___init__ : Stmt := inClass (topS 42) 1
abbrev st_Let___init__ : Stmt := inClass (topS 43) 1
abbrev st_If___init__ : Stmt := inClass (topS 44) 1
abbrev st_Loop___init__ : Stmt := inClass (topS 45) 1
abbrev st_Leave___init__ : Stmt := inClass (topS 46) 1
abbrev st_Return___init__ : Stmt := inClass (topS 47) 1
abbrev st_Joined___init__ : Stmt := inClass (topS 48) 1
abbrev st_indented : Stmt := topS 49
abbrev st_goes_together : Stmt := topS 50
abbrev st_check_body : Stmt := topS 51
abbrev st_check_joined : Stmt := topS 52
abbrev st_all_in : Stmt := topS 53
abbrev st_steps_in : Stmt := topS 54
abbrev st_leaves_outside : Stmt := topS 55
abbrev st_Call___init__ : Stmt := inClass (topS 62) 0
abbrev st_Call_cells : Stmt := inClass (topS 62) 2
abbrev st_Call_steps : Stmt := inClass (topS 62) 3
abbrev st_Call_lines : Stmt := inClass (topS 62) 4
abbrev st_Call___eq__ : Stmt := inClass (topS 62) 5
abbrev st_Call___str__ : Stmt := inClass (topS 62) 6
abbrev st_Call___repr__ : Stmt := inClass (topS 62) 7
abbrev st_check_parameters : Stmt := topS 63
abbrev st_slots_of : Stmt := topS 64
abbrev st_check_limits : Stmt := topS 65
abbrev st_law_number : Stmt := topS 67
abbrev st_law_source : Stmt := topS 68
abbrev st_law_take : Stmt := topS 69
abbrev st_law_word : Stmt := topS 70
abbrev st_law_words : Stmt := topS 71
abbrev st_law_head : Stmt := topS 72
abbrev st_law_bodies : Stmt := topS 73
abbrev st_law_lines : Stmt := topS 74
abbrev st_law_paper : Stmt := topS 75
abbrev st_law_made : Stmt := topS 76
abbrev st_law_holding : Stmt := topS 77
abbrev st_law_size : Stmt := topS 78
abbrev st_law_paces : Stmt := topS 79
abbrev st_law_line : Stmt := topS 80
abbrev st_law_operand : Stmt := topS 81
abbrev st_law_statement : Stmt := topS 82
abbrev st_law_body : Stmt := topS 83
abbrev st_law_fitting : Stmt := topS 84
abbrev st_law_call : Stmt := topS 85
abbrev st_law_all : Stmt := topS 86
abbrev st_law_rooms : Stmt := topS 87
abbrev st_law_slots : Stmt := topS 88
abbrev st_law_shows : Stmt := topS 89
abbrev st_law_built : Stmt := topS 90
abbrev st_law_mates : Stmt := topS 91
abbrev st_law_right : Stmt := topS 92
abbrev st_law_shared_right : Stmt := topS 93
abbrev st_law : Stmt := topS 94
abbrev famAttrs : List Str := ["size", "mentioned", "body", "otherwise", "cell", "into", "rows", "operand", "old", "new", "left", "right"]
def kp_Look {α : Type} (us ws : List α) : List α := match us, ws with | [u], [w0, w1] => [u, w1, w0] | _, _ => []
def kp_Put {α : Type} (us ws : List α) : List α := match us, ws with | [u], [w0, w1] => [u, w1, w0] | _, _ => []
def kp_Swap {α : Type} (us ws : List α) : List α := match us, ws with | [u], [w0, w1, w2] => [u, w1, w2, w0] | _, _ => []
def kp_Try {α : Type} (us ws : List α) : List α := match us, ws with | [u], [w0, w1, w2, w3] => [u, w3, w2, w1, w0] | _, _ => []
def kp_Let {α : Type} (us ws : List α) : List α := match us, ws with | [u], [w0, w1] => [u, w1, w0] | _, _ => []
def kp_Return {α : Type} (us ws : List α) : List α := match us, ws with | [u], [w0] => [u, w0] | _, _ => []
def kp_If {α : Type} (us ws : List α) : List α := match us, ws with | [u], [w0, w1, w2, w3] => [u, w3, w2, w1, w0] | _, _ => []
def kp_Loop {α : Type} (us ws : List α) : List α := match us, ws with | [u], [w0] => [u, w0] | _, _ => []
def kp_Joined {α : Type} (us ws : List α) : List α := match us, ws with | [u], [w0] => [u, w0] | _, _ => []
def kp_Call {α : Type} (us ws : List α) : List α := match us, ws with | [u], [w0, w1, w2] => [u, w2, w1, w0] | _, _ => []
structure Ads where
  t_LETTERS : Tok
  t_SIGNS : Tok
  t_NOTHING : Tok
  t_YES : Tok
  t_LONGEST : Tok
  u_ACTS : Addr
  t_MAX_CELLS : Tok
  t_MAX_PARAMETERS : Tok
  t_MAX_SLOTS : Tok
  t_MAX_STEPS : Tok
  t_MAX_STATEMENTS : Tok
  t_MAX_LEVEL : Tok
  u_STEPS : Addr
  u_TOGETHER : Addr
  c_Statement : Addr
  c_Look : Addr
  c_Put : Addr
  c_Swap : Addr
  c_Try : Addr
  c_Let : Addr
  c_If : Addr
  c_Loop : Addr
  c_Leave : Addr
  c_Return : Addr
  c_Joined : Addr
  c_Call : Addr
  a_is_name : Addr
  d_is_name : FuncData
  a_is_operand : Addr
  d_is_operand : FuncData
  a_check_name : Addr
  d_check_name : FuncData
  a_check_operand : Addr
  d_check_operand : FuncData
  a_coded : Addr
  d_coded : FuncData
  a_coded_rows : Addr
  d_coded_rows : FuncData
  a_moved : Addr
  d_moved : FuncData
  a_rows_of : Addr
  d_rows_of : FuncData
  a_parts_of_row : Addr
  d_parts_of_row : FuncData
  a_place_of : Addr
  d_place_of : FuncData
  a_Statement___init__ : Addr
  d_Statement___init__ : FuncData
  x_Statement___init___0 : Addr
  x_Statement___init___1 : Addr
  x_Statement___init___2 : Addr
  dt_Statement___init__ : Addr
  p_Statement_amount : Addr
  a_Statement_amount : Addr
  d_Statement_amount : FuncData
  p_Statement_level : Addr
  a_Statement_level : Addr
  d_Statement_level : FuncData
  a_Statement___eq__ : Addr
  d_Statement___eq__ : FuncData
  a_Statement___str__ : Addr
  d_Statement___str__ : FuncData
  a_Statement___repr__ : Addr
  d_Statement___repr__ : FuncData
  a_Look___init__ : Addr
  d_Look___init__ : FuncData
  cc_Look___init__ : Addr
  a_Put___init__ : Addr
  d_Put___init__ : FuncData
  cc_Put___init__ : Addr
  a_Swap___init__ : Addr
  d_Swap___init__ : FuncData
  cc_Swap___init__ : Addr
  a_Try___init__ : Addr
  d_Try___init__ : FuncData
  cc_Try___init__ : Addr
  a_Let___init__ : Addr
  d_Let___init__ : FuncData
  cc_Let___init__ : Addr
  a_If___init__ : Addr
  d_If___init__ : FuncData
  x_If___init___0 : Addr
  cc_If___init__ : Addr
  dt_If___init__ : Addr
  a_Loop___init__ : Addr
  d_Loop___init__ : FuncData
  cc_Loop___init__ : Addr
  a_Leave___init__ : Addr
  d_Leave___init__ : FuncData
  cc_Leave___init__ : Addr
  a_Return___init__ : Addr
  d_Return___init__ : FuncData
  cc_Return___init__ : Addr
  a_Joined___init__ : Addr
  d_Joined___init__ : FuncData
  cc_Joined___init__ : Addr
  a_indented : Addr
  d_indented : FuncData
  a_goes_together : Addr
  d_goes_together : FuncData
  a_check_body : Addr
  d_check_body : FuncData
  a_check_joined : Addr
  d_check_joined : FuncData
  a_all_in : Addr
  d_all_in : FuncData
  a_steps_in : Addr
  d_steps_in : FuncData
  a_leaves_outside : Addr
  d_leaves_outside : FuncData
  a_Call___init__ : Addr
  d_Call___init__ : FuncData
  p_Call_cells : Addr
  a_Call_cells : Addr
  d_Call_cells : FuncData
  p_Call_steps : Addr
  a_Call_steps : Addr
  d_Call_steps : FuncData
  p_Call_lines : Addr
  a_Call_lines : Addr
  d_Call_lines : FuncData
  a_Call___eq__ : Addr
  d_Call___eq__ : FuncData
  a_Call___str__ : Addr
  d_Call___str__ : FuncData
  a_Call___repr__ : Addr
  d_Call___repr__ : FuncData
  a_check_parameters : Addr
  d_check_parameters : FuncData
  a_slots_of : Addr
  d_slots_of : FuncData
  a_check_limits : Addr
  d_check_limits : FuncData
  a_law_number : Addr
  d_law_number : FuncData
  a_law_source : Addr
  d_law_source : FuncData
  a_law_take : Addr
  d_law_take : FuncData
  a_law_word : Addr
  d_law_word : FuncData
  a_law_words : Addr
  d_law_words : FuncData
  a_law_head : Addr
  d_law_head : FuncData
  a_law_bodies : Addr
  d_law_bodies : FuncData
  a_law_lines : Addr
  d_law_lines : FuncData
  a_law_paper : Addr
  d_law_paper : FuncData
  a_law_made : Addr
  d_law_made : FuncData
  a_law_holding : Addr
  d_law_holding : FuncData
  a_law_size : Addr
  d_law_size : FuncData
  a_law_paces : Addr
  d_law_paces : FuncData
  a_law_line : Addr
  d_law_line : FuncData
  a_law_operand : Addr
  d_law_operand : FuncData
  a_law_statement : Addr
  d_law_statement : FuncData
  a_law_body : Addr
  d_law_body : FuncData
  a_law_fitting : Addr
  d_law_fitting : FuncData
  a_law_call : Addr
  d_law_call : FuncData
  a_law_all : Addr
  d_law_all : FuncData
  a_law_rooms : Addr
  d_law_rooms : FuncData
  a_law_slots : Addr
  d_law_slots : FuncData
  a_law_shows : Addr
  d_law_shows : FuncData
  a_law_built : Addr
  d_law_built : FuncData
  a_law_mates : Addr
  d_law_mates : FuncData
  a_law_right : Addr
  d_law_right : FuncData
  a_law_shared_right : Addr
  d_law_shared_right : FuncData
  a_law : Addr
  d_law : FuncData
def adsOf (K : PySem.W.Frag) : Ads where
  t_LETTERS := tokOf K "LETTERS"
  t_SIGNS := tokOf K "SIGNS"
  t_NOTHING := tokOf K "NOTHING"
  t_YES := tokOf K "YES"
  t_LONGEST := tokOf K "LONGEST"
  u_ACTS := He.ga K "ACTS"
  t_MAX_CELLS := tokOf K "MAX_CELLS"
  t_MAX_PARAMETERS := tokOf K "MAX_PARAMETERS"
  t_MAX_SLOTS := tokOf K "MAX_SLOTS"
  t_MAX_STEPS := tokOf K "MAX_STEPS"
  t_MAX_STATEMENTS := tokOf K "MAX_STATEMENTS"
  t_MAX_LEVEL := tokOf K "MAX_LEVEL"
  u_STEPS := He.ga K "STEPS"
  u_TOGETHER := He.ga K "TOGETHER"
  c_Statement := He.ga K "Statement"
  c_Look := He.ga K "Look"
  c_Put := He.ga K "Put"
  c_Swap := He.ga K "Swap"
  c_Try := He.ga K "Try"
  c_Let := He.ga K "Let"
  c_If := He.ga K "If"
  c_Loop := He.ga K "Loop"
  c_Leave := He.ga K "Leave"
  c_Return := He.ga K "Return"
  c_Joined := He.ga K "Joined"
  c_Call := He.ga K "Call"
  a_is_name := He.ga K "is_name"
  d_is_name := fdOf K (He.ga K "is_name")
  a_is_operand := He.ga K "is_operand"
  d_is_operand := fdOf K (He.ga K "is_operand")
  a_check_name := He.ga K "check_name"
  d_check_name := fdOf K (He.ga K "check_name")
  a_check_operand := He.ga K "check_operand"
  d_check_operand := fdOf K (He.ga K "check_operand")
  a_coded := He.ga K "coded"
  d_coded := fdOf K (He.ga K "coded")
  a_coded_rows := He.ga K "coded_rows"
  d_coded_rows := fdOf K (He.ga K "coded_rows")
  a_moved := He.ga K "moved"
  d_moved := fdOf K (He.ga K "moved")
  a_rows_of := He.ga K "rows_of"
  d_rows_of := fdOf K (He.ga K "rows_of")
  a_parts_of_row := He.ga K "parts_of_row"
  d_parts_of_row := fdOf K (He.ga K "parts_of_row")
  a_place_of := He.ga K "place_of"
  d_place_of := fdOf K (He.ga K "place_of")
  a_Statement___init__ := He.ma K (He.ga K "Statement") "__init__"
  d_Statement___init__ := fdOf K (He.ma K (He.ga K "Statement") "__init__")
  x_Statement___init___0 := dxOf K (He.ma K (He.ga K "Statement") "__init__") 0
  x_Statement___init___1 := dxOf K (He.ma K (He.ga K "Statement") "__init__") 1
  x_Statement___init___2 := dxOf K (He.ma K (He.ga K "Statement") "__init__") 2
  dt_Statement___init__ := dtOf K (He.ma K (He.ga K "Statement") "__init__")
  p_Statement_amount := He.ma K (He.ga K "Statement") "amount"
  a_Statement_amount := pgOf K (He.ma K (He.ga K "Statement") "amount")
  d_Statement_amount := fdOf K (pgOf K (He.ma K (He.ga K "Statement") "amount"))
  p_Statement_level := He.ma K (He.ga K "Statement") "level"
  a_Statement_level := pgOf K (He.ma K (He.ga K "Statement") "level")
  d_Statement_level := fdOf K (pgOf K (He.ma K (He.ga K "Statement") "level"))
  a_Statement___eq__ := He.ma K (He.ga K "Statement") "__eq__"
  d_Statement___eq__ := fdOf K (He.ma K (He.ga K "Statement") "__eq__")
  a_Statement___str__ := He.ma K (He.ga K "Statement") "__str__"
  d_Statement___str__ := fdOf K (He.ma K (He.ga K "Statement") "__str__")
  a_Statement___repr__ := He.ma K (He.ga K "Statement") "__repr__"
  d_Statement___repr__ := fdOf K (He.ma K (He.ga K "Statement") "__repr__")
  a_Look___init__ := He.ma K (He.ga K "Look") "__init__"
  d_Look___init__ := fdOf K (He.ma K (He.ga K "Look") "__init__")
  cc_Look___init__ := cellOf K (He.ma K (He.ga K "Look") "__init__")
  a_Put___init__ := He.ma K (He.ga K "Put") "__init__"
  d_Put___init__ := fdOf K (He.ma K (He.ga K "Put") "__init__")
  cc_Put___init__ := cellOf K (He.ma K (He.ga K "Put") "__init__")
  a_Swap___init__ := He.ma K (He.ga K "Swap") "__init__"
  d_Swap___init__ := fdOf K (He.ma K (He.ga K "Swap") "__init__")
  cc_Swap___init__ := cellOf K (He.ma K (He.ga K "Swap") "__init__")
  a_Try___init__ := He.ma K (He.ga K "Try") "__init__"
  d_Try___init__ := fdOf K (He.ma K (He.ga K "Try") "__init__")
  cc_Try___init__ := cellOf K (He.ma K (He.ga K "Try") "__init__")
  a_Let___init__ := He.ma K (He.ga K "Let") "__init__"
  d_Let___init__ := fdOf K (He.ma K (He.ga K "Let") "__init__")
  cc_Let___init__ := cellOf K (He.ma K (He.ga K "Let") "__init__")
  a_If___init__ := He.ma K (He.ga K "If") "__init__"
  d_If___init__ := fdOf K (He.ma K (He.ga K "If") "__init__")
  x_If___init___0 := dxOf K (He.ma K (He.ga K "If") "__init__") 0
  cc_If___init__ := cellOf K (He.ma K (He.ga K "If") "__init__")
  dt_If___init__ := dtOf K (He.ma K (He.ga K "If") "__init__")
  a_Loop___init__ := He.ma K (He.ga K "Loop") "__init__"
  d_Loop___init__ := fdOf K (He.ma K (He.ga K "Loop") "__init__")
  cc_Loop___init__ := cellOf K (He.ma K (He.ga K "Loop") "__init__")
  a_Leave___init__ := He.ma K (He.ga K "Leave") "__init__"
  d_Leave___init__ := fdOf K (He.ma K (He.ga K "Leave") "__init__")
  cc_Leave___init__ := cellOf K (He.ma K (He.ga K "Leave") "__init__")
  a_Return___init__ := He.ma K (He.ga K "Return") "__init__"
  d_Return___init__ := fdOf K (He.ma K (He.ga K "Return") "__init__")
  cc_Return___init__ := cellOf K (He.ma K (He.ga K "Return") "__init__")
  a_Joined___init__ := He.ma K (He.ga K "Joined") "__init__"
  d_Joined___init__ := fdOf K (He.ma K (He.ga K "Joined") "__init__")
  cc_Joined___init__ := cellOf K (He.ma K (He.ga K "Joined") "__init__")
  a_indented := He.ga K "indented"
  d_indented := fdOf K (He.ga K "indented")
  a_goes_together := He.ga K "goes_together"
  d_goes_together := fdOf K (He.ga K "goes_together")
  a_check_body := He.ga K "check_body"
  d_check_body := fdOf K (He.ga K "check_body")
  a_check_joined := He.ga K "check_joined"
  d_check_joined := fdOf K (He.ga K "check_joined")
  a_all_in := He.ga K "all_in"
  d_all_in := fdOf K (He.ga K "all_in")
  a_steps_in := He.ga K "steps_in"
  d_steps_in := fdOf K (He.ga K "steps_in")
  a_leaves_outside := He.ga K "leaves_outside"
  d_leaves_outside := fdOf K (He.ga K "leaves_outside")
  a_Call___init__ := He.ma K (He.ga K "Call") "__init__"
  d_Call___init__ := fdOf K (He.ma K (He.ga K "Call") "__init__")
  p_Call_cells := He.ma K (He.ga K "Call") "cells"
  a_Call_cells := pgOf K (He.ma K (He.ga K "Call") "cells")
  d_Call_cells := fdOf K (pgOf K (He.ma K (He.ga K "Call") "cells"))
  p_Call_steps := He.ma K (He.ga K "Call") "steps"
  a_Call_steps := pgOf K (He.ma K (He.ga K "Call") "steps")
  d_Call_steps := fdOf K (pgOf K (He.ma K (He.ga K "Call") "steps"))
  p_Call_lines := He.ma K (He.ga K "Call") "lines"
  a_Call_lines := pgOf K (He.ma K (He.ga K "Call") "lines")
  d_Call_lines := fdOf K (pgOf K (He.ma K (He.ga K "Call") "lines"))
  a_Call___eq__ := He.ma K (He.ga K "Call") "__eq__"
  d_Call___eq__ := fdOf K (He.ma K (He.ga K "Call") "__eq__")
  a_Call___str__ := He.ma K (He.ga K "Call") "__str__"
  d_Call___str__ := fdOf K (He.ma K (He.ga K "Call") "__str__")
  a_Call___repr__ := He.ma K (He.ga K "Call") "__repr__"
  d_Call___repr__ := fdOf K (He.ma K (He.ga K "Call") "__repr__")
  a_check_parameters := He.ga K "check_parameters"
  d_check_parameters := fdOf K (He.ga K "check_parameters")
  a_slots_of := He.ga K "slots_of"
  d_slots_of := fdOf K (He.ga K "slots_of")
  a_check_limits := He.ga K "check_limits"
  d_check_limits := fdOf K (He.ga K "check_limits")
  a_law_number := He.ga K "_law_number"
  d_law_number := fdOf K (He.ga K "_law_number")
  a_law_source := He.ga K "_law_source"
  d_law_source := fdOf K (He.ga K "_law_source")
  a_law_take := He.ga K "_law_take"
  d_law_take := fdOf K (He.ga K "_law_take")
  a_law_word := He.ga K "_law_word"
  d_law_word := fdOf K (He.ga K "_law_word")
  a_law_words := He.ga K "_law_words"
  d_law_words := fdOf K (He.ga K "_law_words")
  a_law_head := He.ga K "_law_head"
  d_law_head := fdOf K (He.ga K "_law_head")
  a_law_bodies := He.ga K "_law_bodies"
  d_law_bodies := fdOf K (He.ga K "_law_bodies")
  a_law_lines := He.ga K "_law_lines"
  d_law_lines := fdOf K (He.ga K "_law_lines")
  a_law_paper := He.ga K "_law_paper"
  d_law_paper := fdOf K (He.ga K "_law_paper")
  a_law_made := He.ga K "_law_made"
  d_law_made := fdOf K (He.ga K "_law_made")
  a_law_holding := He.ga K "_law_holding"
  d_law_holding := fdOf K (He.ga K "_law_holding")
  a_law_size := He.ga K "_law_size"
  d_law_size := fdOf K (He.ga K "_law_size")
  a_law_paces := He.ga K "_law_paces"
  d_law_paces := fdOf K (He.ga K "_law_paces")
  a_law_line := He.ga K "_law_line"
  d_law_line := fdOf K (He.ga K "_law_line")
  a_law_operand := He.ga K "_law_operand"
  d_law_operand := fdOf K (He.ga K "_law_operand")
  a_law_statement := He.ga K "_law_statement"
  d_law_statement := fdOf K (He.ga K "_law_statement")
  a_law_body := He.ga K "_law_body"
  d_law_body := fdOf K (He.ga K "_law_body")
  a_law_fitting := He.ga K "_law_fitting"
  d_law_fitting := fdOf K (He.ga K "_law_fitting")
  a_law_call := He.ga K "_law_call"
  d_law_call := fdOf K (He.ga K "_law_call")
  a_law_all := He.ga K "_law_all"
  d_law_all := fdOf K (He.ga K "_law_all")
  a_law_rooms := He.ga K "_law_rooms"
  d_law_rooms := fdOf K (He.ga K "_law_rooms")
  a_law_slots := He.ga K "_law_slots"
  d_law_slots := fdOf K (He.ga K "_law_slots")
  a_law_shows := He.ga K "_law_shows"
  d_law_shows := fdOf K (He.ga K "_law_shows")
  a_law_built := He.ga K "_law_built"
  d_law_built := fdOf K (He.ga K "_law_built")
  a_law_mates := He.ga K "_law_mates"
  d_law_mates := fdOf K (He.ga K "_law_mates")
  a_law_right := He.ga K "_law_right"
  d_law_right := fdOf K (He.ga K "_law_right")
  a_law_shared_right := He.ga K "_law_shared_right"
  d_law_shared_right := fdOf K (He.ga K "_law_shared_right")
  a_law := He.ga K "law"
  d_law := fdOf K (He.ga K "law")
def Ads.fam (A : Ads) : List Addr := [A.c_Look, A.c_Put, A.c_Swap, A.c_Try, A.c_Let, A.c_Leave, A.c_Return, A.c_If, A.c_Loop, A.c_Joined]
def chkA (K : PySem.W.Frag) (A : Ads) : List Bool := [
  decide (PySem.W.nsIn K mainGlobals "abs" = some none),
  decide (PySem.W.nsIn K mainGlobals "all" = some none),
  decide (PySem.W.nsIn K mainGlobals "any" = some none),
  decide (PySem.W.nsIn K mainGlobals "divmod" = some none),
  decide (PySem.W.nsIn K mainGlobals "enumerate" = some none),
  decide (PySem.W.nsIn K mainGlobals "int" = some none),
  decide (PySem.W.nsIn K mainGlobals "isinstance" = some none),
  decide (PySem.W.nsIn K mainGlobals "len" = some none),
  decide (PySem.W.nsIn K mainGlobals "list" = some none),
  decide (PySem.W.nsIn K mainGlobals "max" = some none),
  decide (PySem.W.nsIn K mainGlobals "min" = some none),
  decide (PySem.W.nsIn K mainGlobals "property" = some none),
  decide (PySem.W.nsIn K mainGlobals "range" = some none),
  decide (PySem.W.nsIn K mainGlobals "repr" = some none),
  decide (PySem.W.nsIn K mainGlobals "reversed" = some none),
  decide (PySem.W.nsIn K mainGlobals "set" = some none),
  decide (PySem.W.nsIn K mainGlobals "sorted" = some none),
  decide (PySem.W.nsIn K mainGlobals "str" = some none),
  decide (PySem.W.nsIn K mainGlobals "sum" = some none),
  decide (PySem.W.nsIn K mainGlobals "super" = some none),
  decide (PySem.W.nsIn K mainGlobals "tuple" = some none),
  decide (PySem.W.nsIn K mainGlobals "LETTERS" = some (some (.str "abcdefghijklmnopqrstuvwxyz" A.t_LETTERS))),
  decide (PySem.W.nsIn K mainGlobals "SIGNS" = some (some (.str "abcdefghijklmnopqrstuvwxyz0123456789" A.t_SIGNS))),
  decide (PySem.W.nsIn K mainGlobals "NOTHING" = some (some (.str "nothing" A.t_NOTHING))),
  decide (PySem.W.nsIn K mainGlobals "YES" = some (some (.str "yes" A.t_YES))),
  decide (PySem.W.nsIn K mainGlobals "LONGEST" = some (some (.int (8) A.t_LONGEST))),
  decide (PySem.W.nsIn K mainGlobals "ACTS" = some (some (.ref A.u_ACTS))),
  tupSB K "ACTS" ["look", "put", "swap", "try", "joined"],
  decide (PySem.W.nsIn K mainGlobals "MAX_CELLS" = some (some (.int (3) A.t_MAX_CELLS))),
  decide (PySem.W.nsIn K mainGlobals "MAX_PARAMETERS" = some (some (.int (2) A.t_MAX_PARAMETERS))),
  decide (PySem.W.nsIn K mainGlobals "MAX_SLOTS" = some (some (.int (3) A.t_MAX_SLOTS))),
  decide (PySem.W.nsIn K mainGlobals "MAX_STEPS" = some (some (.int (12) A.t_MAX_STEPS))),
  decide (PySem.W.nsIn K mainGlobals "MAX_STATEMENTS" = some (some (.int (40) A.t_MAX_STATEMENTS))),
  decide (PySem.W.nsIn K mainGlobals "MAX_LEVEL" = some (some (.int (5) A.t_MAX_LEVEL))),
  decide (PySem.W.nsIn K mainGlobals "STEPS" = some (some (.ref A.u_STEPS))),
  tupSB K "STEPS" ["look", "put", "swap", "try", "joined"],
  decide (PySem.W.nsIn K mainGlobals "TOGETHER" = some (some (.ref A.u_TOGETHER))),
  tupSB K "TOGETHER" ["look", "put", "swap", "try", "let", "if"],
  decide (PySem.W.nsIn K mainGlobals "Statement" = some (some (.ref A.c_Statement))),
  decide (PySem.W.nsIn K mainGlobals "Look" = some (some (.ref A.c_Look))),
  decide (PySem.W.nsIn K mainGlobals "Put" = some (some (.ref A.c_Put))),
  decide (PySem.W.nsIn K mainGlobals "Swap" = some (some (.ref A.c_Swap))),
  decide (PySem.W.nsIn K mainGlobals "Try" = some (some (.ref A.c_Try))),
  decide (PySem.W.nsIn K mainGlobals "Let" = some (some (.ref A.c_Let))),
  decide (PySem.W.nsIn K mainGlobals "If" = some (some (.ref A.c_If))),
  decide (PySem.W.nsIn K mainGlobals "Loop" = some (some (.ref A.c_Loop))),
  decide (PySem.W.nsIn K mainGlobals "Leave" = some (some (.ref A.c_Leave))),
  decide (PySem.W.nsIn K mainGlobals "Return" = some (some (.ref A.c_Return))),
  decide (PySem.W.nsIn K mainGlobals "Joined" = some (some (.ref A.c_Joined))),
  decide (PySem.W.nsIn K mainGlobals "Call" = some (some (.ref A.c_Call))),
  decide (PySem.W.nsIn K cStatics "thirdparty.any" = some none),
  decide (PySem.W.nsIn K mainGlobals "is_name" = some (some (.ref A.a_is_name))),
  fnB K A.a_is_name "is_name",
  decide (PySem.W.nsIn K mainGlobals "is_operand" = some (some (.ref A.a_is_operand))),
  fnB K A.a_is_operand "is_operand",
  decide (PySem.W.nsIn K mainGlobals "check_name" = some (some (.ref A.a_check_name))),
  fnB K A.a_check_name "check_name",
  decide (PySem.W.nsIn K mainGlobals "check_operand" = some (some (.ref A.a_check_operand))),
  fnB K A.a_check_operand "check_operand",
  decide (PySem.W.nsIn K mainGlobals "coded" = some (some (.ref A.a_coded))),
  fnB K A.a_coded "coded",
  decide (PySem.W.nsIn K mainGlobals "coded_rows" = some (some (.ref A.a_coded_rows))),
  fnB K A.a_coded_rows "coded_rows",
  decide (PySem.W.nsIn K mainGlobals "moved" = some (some (.ref A.a_moved))),
  fnB K A.a_moved "moved",
  decide (PySem.W.nsIn K mainGlobals "rows_of" = some (some (.ref A.a_rows_of))),
  fnB K A.a_rows_of "rows_of",
  decide (PySem.W.nsIn K mainGlobals "parts_of_row" = some (some (.ref A.a_parts_of_row))),
  fnB K A.a_parts_of_row "parts_of_row",
  decide (PySem.W.nsIn K mainGlobals "place_of" = some (some (.ref A.a_place_of))),
  fnB K A.a_place_of "place_of",
  decide (PySem.W.findIn K (.ref A.c_Statement) "__init__" = some (some (.ref A.a_Statement___init__))),
  PySem.W.isFn K (.ref A.a_Statement___init__),
  fnDB K A.a_Statement___init__ "Statement.__init__" [true, true, true],
  decide (PySem.W.fnIn K A.a_Statement___init__ = true),
  decide (PySem.W.typeIn K (.ref A.a_Statement___init__) = some (.type "function")),
  decide (PySem.W.findIn K (.ref A.c_Statement) "amount" = some (some (.ref A.p_Statement_amount))),
  prB K A.p_Statement_amount,
  fnB K A.a_Statement_amount "Statement.amount",
  decide (PySem.W.findIn K (.ref A.c_Statement) "level" = some (some (.ref A.p_Statement_level))),
  prB K A.p_Statement_level,
  fnB K A.a_Statement_level "Statement.level",
  decide (PySem.W.findIn K (.ref A.c_Statement) "__eq__" = some (some (.ref A.a_Statement___eq__))),
  PySem.W.isFn K (.ref A.a_Statement___eq__),
  fnB K A.a_Statement___eq__ "Statement.__eq__",
  decide (PySem.W.findIn K (.ref A.c_Statement) "__str__" = some (some (.ref A.a_Statement___str__))),
  PySem.W.isFn K (.ref A.a_Statement___str__),
  fnB K A.a_Statement___str__ "Statement.__str__",
  decide (PySem.W.findIn K (.ref A.c_Statement) "__repr__" = some (some (.ref A.a_Statement___repr__))),
  PySem.W.isFn K (.ref A.a_Statement___repr__),
  fnB K A.a_Statement___repr__ "Statement.__repr__",
  decide (PySem.W.findIn K (.ref A.c_Look) "__init__" = some (some (.ref A.a_Look___init__))),
  PySem.W.isFn K (.ref A.a_Look___init__),
  sfnB P K A.a_Look___init__ A.c_Look "Look.__init__",
  noDfl K A.a_Look___init__,
  decide (PySem.W.findIn K (.ref A.c_Put) "__init__" = some (some (.ref A.a_Put___init__))),
  PySem.W.isFn K (.ref A.a_Put___init__),
  sfnB P K A.a_Put___init__ A.c_Put "Put.__init__",
  noDfl K A.a_Put___init__,
  decide (PySem.W.findIn K (.ref A.c_Swap) "__init__" = some (some (.ref A.a_Swap___init__))),
  PySem.W.isFn K (.ref A.a_Swap___init__),
  sfnB P K A.a_Swap___init__ A.c_Swap "Swap.__init__",
  noDfl K A.a_Swap___init__,
  decide (PySem.W.findIn K (.ref A.c_Try) "__init__" = some (some (.ref A.a_Try___init__))),
  PySem.W.isFn K (.ref A.a_Try___init__),
  sfnB P K A.a_Try___init__ A.c_Try "Try.__init__",
  noDfl K A.a_Try___init__,
  decide (PySem.W.findIn K (.ref A.c_Let) "__init__" = some (some (.ref A.a_Let___init__))),
  PySem.W.isFn K (.ref A.a_Let___init__),
  sfnB P K A.a_Let___init__ A.c_Let "Let.__init__",
  noDfl K A.a_Let___init__,
  decide (PySem.W.findIn K (.ref A.c_If) "__init__" = some (some (.ref A.a_If___init__))),
  PySem.W.isFn K (.ref A.a_If___init__),
  sfnB P K A.a_If___init__ A.c_If "If.__init__",
  sdflB K A.a_If___init__ [true],
  decide (PySem.W.findIn K (.ref A.c_Loop) "__init__" = some (some (.ref A.a_Loop___init__))),
  PySem.W.isFn K (.ref A.a_Loop___init__),
  sfnB P K A.a_Loop___init__ A.c_Loop "Loop.__init__",
  noDfl K A.a_Loop___init__,
  decide (PySem.W.findIn K (.ref A.c_Leave) "__init__" = some (some (.ref A.a_Leave___init__))),
  PySem.W.isFn K (.ref A.a_Leave___init__),
  sfnB P K A.a_Leave___init__ A.c_Leave "Leave.__init__",
  noDfl K A.a_Leave___init__,
  decide (PySem.W.findIn K (.ref A.c_Return) "__init__" = some (some (.ref A.a_Return___init__))),
  PySem.W.isFn K (.ref A.a_Return___init__),
  sfnB P K A.a_Return___init__ A.c_Return "Return.__init__",
  noDfl K A.a_Return___init__,
  decide (PySem.W.findIn K (.ref A.c_Joined) "__init__" = some (some (.ref A.a_Joined___init__))),
  PySem.W.isFn K (.ref A.a_Joined___init__),
  sfnB P K A.a_Joined___init__ A.c_Joined "Joined.__init__",
  noDfl K A.a_Joined___init__,
  decide (PySem.W.nsIn K mainGlobals "indented" = some (some (.ref A.a_indented))),
  fnB K A.a_indented "indented",
  decide (PySem.W.nsIn K mainGlobals "goes_together" = some (some (.ref A.a_goes_together))),
  fnB K A.a_goes_together "goes_together",
  decide (PySem.W.nsIn K mainGlobals "check_body" = some (some (.ref A.a_check_body))),
  fnB K A.a_check_body "check_body",
  decide (PySem.W.nsIn K mainGlobals "check_joined" = some (some (.ref A.a_check_joined))),
  fnB K A.a_check_joined "check_joined",
  decide (PySem.W.nsIn K mainGlobals "all_in" = some (some (.ref A.a_all_in))),
  fnB K A.a_all_in "all_in",
  decide (PySem.W.nsIn K mainGlobals "steps_in" = some (some (.ref A.a_steps_in))),
  fnB K A.a_steps_in "steps_in",
  decide (PySem.W.nsIn K mainGlobals "leaves_outside" = some (some (.ref A.a_leaves_outside))),
  fnB K A.a_leaves_outside "leaves_outside",
  decide (PySem.W.findIn K (.ref A.c_Call) "__init__" = some (some (.ref A.a_Call___init__))),
  PySem.W.isFn K (.ref A.a_Call___init__),
  fnB K A.a_Call___init__ "Call.__init__",
  decide (PySem.W.findIn K (.ref A.c_Call) "cells" = some (some (.ref A.p_Call_cells))),
  prB K A.p_Call_cells,
  fnB K A.a_Call_cells "Call.cells",
  decide (PySem.W.findIn K (.ref A.c_Call) "steps" = some (some (.ref A.p_Call_steps))),
  prB K A.p_Call_steps,
  fnB K A.a_Call_steps "Call.steps",
  decide (PySem.W.findIn K (.ref A.c_Call) "lines" = some (some (.ref A.p_Call_lines))),
  prB K A.p_Call_lines,
  fnB K A.a_Call_lines "Call.lines",
  decide (PySem.W.findIn K (.ref A.c_Call) "__eq__" = some (some (.ref A.a_Call___eq__))),
  PySem.W.isFn K (.ref A.a_Call___eq__),
  fnB K A.a_Call___eq__ "Call.__eq__",
  decide (PySem.W.findIn K (.ref A.c_Call) "__str__" = some (some (.ref A.a_Call___str__))),
  PySem.W.isFn K (.ref A.a_Call___str__),
  fnB K A.a_Call___str__ "Call.__str__",
  decide (PySem.W.findIn K (.ref A.c_Call) "__repr__" = some (some (.ref A.a_Call___repr__))),
  PySem.W.isFn K (.ref A.a_Call___repr__),
  fnB K A.a_Call___repr__ "Call.__repr__",
  decide (PySem.W.nsIn K mainGlobals "check_parameters" = some (some (.ref A.a_check_parameters))),
  fnB K A.a_check_parameters "check_parameters",
  decide (PySem.W.nsIn K mainGlobals "slots_of" = some (some (.ref A.a_slots_of))),
  fnB K A.a_slots_of "slots_of",
  decide (PySem.W.nsIn K mainGlobals "check_limits" = some (some (.ref A.a_check_limits))),
  fnB K A.a_check_limits "check_limits",
  decide (PySem.W.nsIn K mainGlobals "_law_number" = some (some (.ref A.a_law_number))),
  fnB K A.a_law_number "_law_number",
  decide (PySem.W.nsIn K mainGlobals "_law_source" = some (some (.ref A.a_law_source))),
  fnB K A.a_law_source "_law_source",
  decide (PySem.W.nsIn K mainGlobals "_law_take" = some (some (.ref A.a_law_take))),
  fnB K A.a_law_take "_law_take",
  decide (PySem.W.nsIn K mainGlobals "_law_word" = some (some (.ref A.a_law_word))),
  fnB K A.a_law_word "_law_word",
  decide (PySem.W.nsIn K mainGlobals "_law_words" = some (some (.ref A.a_law_words))),
  fnB K A.a_law_words "_law_words",
  decide (PySem.W.nsIn K mainGlobals "_law_head" = some (some (.ref A.a_law_head))),
  fnB K A.a_law_head "_law_head",
  decide (PySem.W.nsIn K mainGlobals "_law_bodies" = some (some (.ref A.a_law_bodies))),
  fnB K A.a_law_bodies "_law_bodies",
  decide (PySem.W.nsIn K mainGlobals "_law_lines" = some (some (.ref A.a_law_lines))),
  fnB K A.a_law_lines "_law_lines",
  decide (PySem.W.nsIn K mainGlobals "_law_paper" = some (some (.ref A.a_law_paper))),
  fnB K A.a_law_paper "_law_paper",
  decide (PySem.W.nsIn K mainGlobals "_law_made" = some (some (.ref A.a_law_made))),
  fnB K A.a_law_made "_law_made",
  decide (PySem.W.nsIn K mainGlobals "_law_holding" = some (some (.ref A.a_law_holding))),
  fnB K A.a_law_holding "_law_holding",
  decide (PySem.W.nsIn K mainGlobals "_law_size" = some (some (.ref A.a_law_size))),
  fnB K A.a_law_size "_law_size",
  decide (PySem.W.nsIn K mainGlobals "_law_paces" = some (some (.ref A.a_law_paces))),
  fnB K A.a_law_paces "_law_paces",
  decide (PySem.W.nsIn K mainGlobals "_law_line" = some (some (.ref A.a_law_line))),
  fnB K A.a_law_line "_law_line",
  decide (PySem.W.nsIn K mainGlobals "_law_operand" = some (some (.ref A.a_law_operand))),
  fnB K A.a_law_operand "_law_operand",
  decide (PySem.W.nsIn K mainGlobals "_law_statement" = some (some (.ref A.a_law_statement))),
  fnB K A.a_law_statement "_law_statement",
  decide (PySem.W.nsIn K mainGlobals "_law_body" = some (some (.ref A.a_law_body))),
  fnB K A.a_law_body "_law_body",
  decide (PySem.W.nsIn K mainGlobals "_law_fitting" = some (some (.ref A.a_law_fitting))),
  fnB K A.a_law_fitting "_law_fitting",
  decide (PySem.W.nsIn K mainGlobals "_law_call" = some (some (.ref A.a_law_call))),
  fnB K A.a_law_call "_law_call",
  decide (PySem.W.nsIn K mainGlobals "_law_all" = some (some (.ref A.a_law_all))),
  fnB K A.a_law_all "_law_all",
  decide (PySem.W.nsIn K mainGlobals "_law_rooms" = some (some (.ref A.a_law_rooms))),
  fnB K A.a_law_rooms "_law_rooms",
  decide (PySem.W.nsIn K mainGlobals "_law_slots" = some (some (.ref A.a_law_slots))),
  fnB K A.a_law_slots "_law_slots",
  decide (PySem.W.nsIn K mainGlobals "_law_shows" = some (some (.ref A.a_law_shows))),
  fnB K A.a_law_shows "_law_shows",
  decide (PySem.W.nsIn K mainGlobals "_law_built" = some (some (.ref A.a_law_built))),
  fnB K A.a_law_built "_law_built",
  decide (PySem.W.nsIn K mainGlobals "_law_mates" = some (some (.ref A.a_law_mates))),
  fnB K A.a_law_mates "_law_mates",
  decide (PySem.W.nsIn K mainGlobals "_law_right" = some (some (.ref A.a_law_right))),
  fnB K A.a_law_right "_law_right",
  decide (PySem.W.nsIn K mainGlobals "_law_shared_right" = some (some (.ref A.a_law_shared_right))),
  fnB K A.a_law_shared_right "_law_shared_right",
  decide (PySem.W.nsIn K mainGlobals "law" = some (some (.ref A.a_law))),
  fnB K A.a_law "law",
  decide (PySem.W.specialIn K (.builtin "object.__class__") "__get__" = some (some (.builtin "getset_descriptor.__get__"))),
  decide (PySem.W.takesIn K (.builtin "object.__class__") = some true),
  famChk K A.c_Statement famAttrs,
  (A.fam.all fun C => famChk K C famAttrs),
  tabChk K A.fam,
  (A.fam.all fun C => (PySem.W.mroIn K C (.ref A.c_Statement) == some true) && ((PySem.W.subIn K (.ref C) (.ref A.c_Statement) == some true) && (C != A.c_Statement))),
  (A.fam.all fun C => PySem.W.mroIn K C (.ref C) == some true),
  (A.fam.all fun C => PySem.W.ks_superIn K C C "__init__" == some (some (.ref A.a_Statement___init__))),
  (A.fam.all fun C => PySem.W.findIn K (.ref C) "amount" == some (some (.ref A.p_Statement_amount))),
  (A.fam.all fun C => PySem.W.findIn K (.ref C) "level" == some (some (.ref A.p_Statement_level))),
  (A.fam.all fun C => PySem.W.findIn K (.ref C) "__eq__" == some (some (.ref A.a_Statement___eq__))),
  (A.fam.all fun C => PySem.W.findIn K (.ref C) "__str__" == some (some (.ref A.a_Statement___str__))),
  (A.fam.all fun C => PySem.W.findIn K (.ref C) "__repr__" == some (some (.ref A.a_Statement___repr__))),
  (A.fam.all fun C => PySem.W.readsIn K C (.type "type") && (PySem.W.specialIn K (.ref C) "__getattribute__" == some (some (.builtin "type.__getattribute__")))),
  conB K A.c_Look "WORD" "look",
  cvalB K A.c_Look "WORD" "look",
  conB K A.c_Put "WORD" "put",
  cvalB K A.c_Put "WORD" "put",
  conB K A.c_Swap "WORD" "swap",
  cvalB K A.c_Swap "WORD" "swap",
  conB K A.c_Try "WORD" "try",
  cvalB K A.c_Try "WORD" "try",
  conB K A.c_Let "WORD" "let",
  cvalB K A.c_Let "WORD" "let",
  conB K A.c_Leave "WORD" "leave",
  cvalB K A.c_Leave "WORD" "leave",
  conB K A.c_Return "WORD" "return",
  cvalB K A.c_Return "WORD" "return",
  conB K A.c_If "WORD" "if",
  cvalB K A.c_If "WORD" "if",
  conB K A.c_Loop "WORD" "loop",
  cvalB K A.c_Loop "WORD" "loop",
  conB K A.c_Joined "WORD" "joined",
  cvalB K A.c_Joined "WORD" "joined",
  PySem.W.makesIn K A.c_Look,
  PySem.W.keepIn K (.ref A.c_Look),
  PySem.W.makesIn K A.c_Put,
  PySem.W.keepIn K (.ref A.c_Put),
  PySem.W.makesIn K A.c_Swap,
  PySem.W.keepIn K (.ref A.c_Swap),
  PySem.W.makesIn K A.c_Try,
  PySem.W.keepIn K (.ref A.c_Try),
  PySem.W.makesIn K A.c_Let,
  PySem.W.keepIn K (.ref A.c_Let),
  PySem.W.makesIn K A.c_Leave,
  PySem.W.keepIn K (.ref A.c_Leave),
  PySem.W.makesIn K A.c_Return,
  PySem.W.keepIn K (.ref A.c_Return),
  PySem.W.makesIn K A.c_If,
  PySem.W.keepIn K (.ref A.c_If),
  PySem.W.makesIn K A.c_Loop,
  PySem.W.keepIn K (.ref A.c_Loop),
  PySem.W.makesIn K A.c_Joined,
  PySem.W.keepIn K (.ref A.c_Joined),
  famChk K A.c_Call ["name", "parameters", "body", "places", "slots", "sizes", "code"],
  PySem.W.notFirst K A.c_Call (.ref A.c_Call),
  PySem.W.makesIn K A.c_Call,
  PySem.W.keepIn K (.ref A.c_Call)]
def fnsA (K : PySem.W.Frag) (A : Ads) : List FnI := [fnI K A.a_is_name, fnI K A.a_is_operand, fnI K A.a_check_name, fnI K A.a_check_operand, fnI K A.a_coded, fnI K A.a_coded_rows, fnI K A.a_moved, fnI K A.a_rows_of, fnI K A.a_parts_of_row, fnI K A.a_place_of, fnI K A.a_Statement___init__, fnI K A.a_Statement_amount, fnI K A.a_Statement_level, fnI K A.a_Statement___eq__, fnI K A.a_Statement___str__, fnI K A.a_Statement___repr__, fnI K A.a_Look___init__, fnI K A.a_Put___init__, fnI K A.a_Swap___init__, fnI K A.a_Try___init__, fnI K A.a_Let___init__, fnI K A.a_If___init__, fnI K A.a_Loop___init__, fnI K A.a_Leave___init__, fnI K A.a_Return___init__, fnI K A.a_Joined___init__, fnI K A.a_indented, fnI K A.a_goes_together, fnI K A.a_check_body, fnI K A.a_check_joined, fnI K A.a_all_in, fnI K A.a_steps_in, fnI K A.a_leaves_outside, fnI K A.a_Call___init__, fnI K A.a_Call_cells, fnI K A.a_Call_steps, fnI K A.a_Call_lines, fnI K A.a_Call___eq__, fnI K A.a_Call___str__, fnI K A.a_Call___repr__, fnI K A.a_check_parameters, fnI K A.a_slots_of, fnI K A.a_check_limits, fnI K A.a_law_number, fnI K A.a_law_source, fnI K A.a_law_take, fnI K A.a_law_word, fnI K A.a_law_words, fnI K A.a_law_head, fnI K A.a_law_bodies, fnI K A.a_law_lines, fnI K A.a_law_paper, fnI K A.a_law_made, fnI K A.a_law_holding, fnI K A.a_law_size, fnI K A.a_law_paces, fnI K A.a_law_line, fnI K A.a_law_operand, fnI K A.a_law_statement, fnI K A.a_law_body, fnI K A.a_law_fitting, fnI K A.a_law_call, fnI K A.a_law_all, fnI K A.a_law_rooms, fnI K A.a_law_slots, fnI K A.a_law_shows, fnI K A.a_law_built, fnI K A.a_law_mates, fnI K A.a_law_right, fnI K A.a_law_shared_right, fnI K A.a_law]
def fvals : List FnI := [fnV "is_name" "is_name" st_is_name [], fnV "is_operand" "is_operand" st_is_operand [], fnV "check_name" "check_name" st_check_name [], fnV "check_operand" "check_operand" st_check_operand [], fnV "coded" "coded" st_coded [], fnV "coded_rows" "coded_rows" st_coded_rows [], fnV "moved" "moved" st_moved [], fnV "rows_of" "rows_of" st_rows_of [], fnV "parts_of_row" "parts_of_row" st_parts_of_row [], fnV "place_of" "place_of" st_place_of [], fnV "__init__" "Statement.__init__" st_Statement___init__ [], fnV "amount" "Statement.amount" st_Statement_amount [], fnV "level" "Statement.level" st_Statement_level [], fnV "__eq__" "Statement.__eq__" st_Statement___eq__ [], fnV "__str__" "Statement.__str__" st_Statement___str__ [], fnV "__repr__" "Statement.__repr__" st_Statement___repr__ [], fnV "__init__" "Look.__init__" st_Look___init__ ["__class__"], fnV "__init__" "Put.__init__" st_Put___init__ ["__class__"], fnV "__init__" "Swap.__init__" st_Swap___init__ ["__class__"], fnV "__init__" "Try.__init__" st_Try___init__ ["__class__"], fnV "__init__" "Let.__init__" st_Let___init__ ["__class__"], fnV "__init__" "If.__init__" st_If___init__ ["__class__"], fnV "__init__" "Loop.__init__" st_Loop___init__ ["__class__"], fnV "__init__" "Leave.__init__" st_Leave___init__ ["__class__"], fnV "__init__" "Return.__init__" st_Return___init__ ["__class__"], fnV "__init__" "Joined.__init__" st_Joined___init__ ["__class__"], fnV "indented" "indented" st_indented [], fnV "goes_together" "goes_together" st_goes_together [], fnV "check_body" "check_body" st_check_body [], fnV "check_joined" "check_joined" st_check_joined [], fnV "all_in" "all_in" st_all_in [], fnV "steps_in" "steps_in" st_steps_in [], fnV "leaves_outside" "leaves_outside" st_leaves_outside [], fnV "__init__" "Call.__init__" st_Call___init__ [], fnV "cells" "Call.cells" st_Call_cells [], fnV "steps" "Call.steps" st_Call_steps [], fnV "lines" "Call.lines" st_Call_lines [], fnV "__eq__" "Call.__eq__" st_Call___eq__ [], fnV "__str__" "Call.__str__" st_Call___str__ [], fnV "__repr__" "Call.__repr__" st_Call___repr__ [], fnV "check_parameters" "check_parameters" st_check_parameters [], fnV "slots_of" "slots_of" st_slots_of [], fnV "check_limits" "check_limits" st_check_limits [], fnV "_law_number" "_law_number" st_law_number [], fnV "_law_source" "_law_source" st_law_source [], fnV "_law_take" "_law_take" st_law_take [], fnV "_law_word" "_law_word" st_law_word [], fnV "_law_words" "_law_words" st_law_words [], fnV "_law_head" "_law_head" st_law_head [], fnV "_law_bodies" "_law_bodies" st_law_bodies [], fnV "_law_lines" "_law_lines" st_law_lines [], fnV "_law_paper" "_law_paper" st_law_paper [], fnV "_law_made" "_law_made" st_law_made [], fnV "_law_holding" "_law_holding" st_law_holding [], fnV "_law_size" "_law_size" st_law_size [], fnV "_law_paces" "_law_paces" st_law_paces [], fnV "_law_line" "_law_line" st_law_line [], fnV "_law_operand" "_law_operand" st_law_operand [], fnV "_law_statement" "_law_statement" st_law_statement [], fnV "_law_body" "_law_body" st_law_body [], fnV "_law_fitting" "_law_fitting" st_law_fitting [], fnV "_law_call" "_law_call" st_law_call [], fnV "_law_all" "_law_all" st_law_all [], fnV "_law_rooms" "_law_rooms" st_law_rooms [], fnV "_law_slots" "_law_slots" st_law_slots [], fnV "_law_shows" "_law_shows" st_law_shows [], fnV "_law_built" "_law_built" st_law_built [], fnV "_law_mates" "_law_mates" st_law_mates [], fnV "_law_right" "_law_right" st_law_right [], fnV "_law_shared_right" "_law_shared_right" st_law_shared_right [], fnV "law" "law" st_law []]
end K07
set_option Elab.async false
set_option linter.all false
set_option maxRecDepth 100000
set_option maxHeartbeats 0
namespace K07HdB
open K07 PySem PySem.Spec PyProof.Rows L2 Mo
abbrev R : PySem.W.OpenRow := PySem.W.OpenLaw.row PySem.Challenge.rw_momentcalls_k07_calls_made
def chkK (K : PySem.W.Frag) : List Bool := chkA K (adsOf K)
def fnsK (K : PySem.W.Frag) : List FnI := fnsA K (adsOf K)
abbrev hk : PySem.W.Hook := hookB 6 chkK fnsK fvals
def ob (s : PySem.W.SharedT) : Bool × List FnI := obB 6 chkK fnsK (HandSHeadRun.getT s)
def n0 : List PySem.Str := ["__name__", "CallError", "InvalidName", "InvalidOperand", "InvalidText", "InvalidBody", "InvalidParameters", "FixedName", "LeaveOutside", "LimitError", "TooMany", "LETTERS", "SIGNS", "NOTHING", "YES", "LONGEST", "is_name", "is_operand", "check_name", "check_operand", "ACTS", "coded", "coded_rows", "moved", "rows_of", "parts_of_row", "place_of", "MAX_CELLS", "MAX_PARAMETERS", "MAX_SLOTS"]
def n1 : List PySem.Str := ["MAX_STEPS", "MAX_STATEMENTS", "MAX_LEVEL", "STEPS", "TOGETHER", "Statement", "Look", "Put", "Swap", "Try", "Let", "If", "Loop", "Leave", "Return", "Joined", "indented", "goes_together", "check_body", "check_joined", "all_in", "steps_in", "leaves_outside", "parts_of", "body_at", "statement_at", "line_read", "Call", "check_parameters", "slots_of"]
def n2 : List PySem.Str := ["check_limits", "_law_number", "_law_source", "_law_take", "_law_word", "_law_words", "_law_head", "_law_bodies", "_law_lines", "_law_paper", "_law_made", "_law_holding", "_law_size", "_law_paces", "_law_line", "_law_operand", "_law_statement", "_law_body", "_law_fitting", "_law_call", "_law_all", "_law_rooms", "_law_slots", "_law_shows", "_law_built", "_law_mates", "_law_right", "_law_shared_right"]
def names : List PySem.Str := n0 ++ n1 ++ n2
theorem run (w : World) : HandSHeadRun.RunEq R (PySem.W.view R.prog [94]) hk ob 20000 names w := by
  intro os
  kernel_rfl
end K07HdB
set_option Elab.async false
set_option linter.all false
set_option maxRecDepth 100000
set_option maxHeartbeats 4000000
namespace Mo
open PySem PySem.Spec PyProof.Rows L2

/-! ## Promises of defs that are run where no repr is under way -/
structure FnG (P : Program) (w : World) (K : PySem.W.Frag) (mg : Str → Option Value) (base : Heap) (CX : CXT) (k : Nat) (f : Addr) (fd : FuncData) (ps : List Str) (sp : Sp) : Prop where
  len : ∀ vs H Q E, sp vs H Q E → vs.length = ps.length
  go : ∀ (A : Around) (outer : List Env) (s : Shared) (H : Hp) (args : Args) (us : List Value) (vs : List V) (Q : VK) (E : XK), Room k A → A.guards = some [] →
    Env0 P w K mg base A outer s H → BindsTo s fd args (ps.zip us) → Vals vs us → sp vs H Q E → codeAny (model P w) A (.call (.ref f) args) (CR CX outer P w H s Q E) s

section
variable {P : Program} {w : World} {K : PySem.W.Frag} {mg : Str → Option Value} {base : Heap} {CX : CXT} {k : Nat} {f : Addr} {fd : FuncData} {ps : List Str} {sp : Sp}
theorem FnG.of (F : FnOk P w K mg base CX k f fd ps sp) : FnG P w K mg base CX k f fd ps sp :=
  ⟨F.len, fun A outer s H args us vs Q E hr _ e b v h => F.run A outer s H args us vs Q E hr e b v h⟩
theorem FnG.mono {j : Nat} (F : FnG P w K mg base CX j f fd ps sp) (h : j ≤ k) : FnG P w K mg base CX k f fd ps sp :=
  ⟨F.len, fun A outer s H args us vs Q E hr => F.go A outer s H args us vs Q E (hr.mono h)⟩
end

/-- a def's body, run where no repr is under way -/
theorem fnG_of {CX : CXT} {P : Program} {w : World} {K : PySem.W.Frag} {mg : Str → Option Value} {base : Heap} {k : Nat} {f : Addr} {name qual : Str} {params : Arguments} {body : List Stmt} {scope : Scope}
    {dV kV doc pm cdv ct oc : Value} {an od : Option Addr} {osl : Array (Option Value)} {N ps : List Str} {sp : Sp}
    (lk : K.lookup f = some ⟨oc, od, .func (PySem.W.fnOf name qual params body scope dV kV doc pm an cdv ct), osl⟩) (hcd : PySem.W.codeIn K cdv qual = true)
    (S : FnScope N ps scope) (len : ∀ vs H Q E, sp vs H Q E → vs.length = ps.length)
    (hb : ∀ (A : Around) (outer : List Env) (s : Shared) (H : Hp) (vs : List V) (Q : VK) (E : XK), Room k (A.deeper (envOfC qual scope s.heap.objs.size f cdv)) → A.guards = some [] → sp vs H Q E →
      ∃ t, PSs (cxOf CX P w K mg base N qual scope f cdv A outer s H E) body t ∧ t { nx := fun _ H' => Q .non H', rt := Q } (start N vs) H) :
    FnG P w K mg base CX (k + 1) f (PySem.W.fnOf name qual params body scope dV kV doc pm an cdv ct) ps sp := by
  refine ⟨len, ?_⟩
  intro A outer s H args us vs Q E hr hG env bnd rel wish
  have okK : K.In s.heap := env.mod.kin.keeps fun b o e => (env.bs b o e).1
  have okL : s.heap.NoLimit := env.mod.nolimit.keeps fun b o e => (env.bs b o e).1
  refine codeAny_call_function hr.depth (okK _ _ lk) rfl S.co S.gen rfl (PySem.W.codeRec_of okK hcd) (bnd _ _ _ _ ?_)
  refine wpAny_newFunctionEnv_cells S.kind ?kinds ?rest
  case kinds =>
    rintro ⟨n, v⟩ hy
    cases S.par n (List.of_mem_zip hy).1 with
    | inl q => exact Or.inl q
    | inr q => exact Or.inr ⟨q, PySem.W.cellsFrom_some _ _ _ (Or.inl q)⟩
  case rest =>
    intro env1 he s1 x
    cases he
    refine ⟨okL.keeps x.toInCall.keep, codeAny_func ?_⟩
    obtain ⟨t, ht, hq⟩ := hb A outer s H vs Q E (hr.deeper _) hG wish
    have J := inv_start (CX := CX) (E := E) (qual := qual) (f := f) (cd := cdv) S hr.hd env (len _ _ _ _ wish) rel x
    refine wpAny_mono (ht.run [] s1 (start N vs) H _ J hq) ?_ (fun e s' hs => hs)
    intro fl s' hs
    match fl, hs with
    | .ret u, ⟨v, σ', H', J', rv, q⟩ => exact ⟨v, H', J'.os, J'.bare, J'.base, J'.hok, rv, q⟩
    | .next, ⟨σ', H', J', q⟩ => exact ⟨V.non, H', J'.os, J'.bare, J'.base, J'.hok, rfl, q⟩
    | .brk, ⟨_, _, _, q⟩ => exact q.elim
    | .cont, ⟨_, _, _, q⟩ => exact q.elim

section
variable {P : Program} {w : World} {K : PySem.W.Frag} {mg : Str → Option Value} {base : Heap}
/-- a def that lets no exception out, run where no repr is under way -/
theorem Fun_okG {x qual : Str} {st : Stmt} {f : Addr} {fd : FuncData} {N ps : List Str} {k : Nat} {sp : Sp} (F : Fun K x qual st f fd) (S : FnScope N ps (defScope st)) (len : ∀ vs H Q E, sp vs H Q E → vs.length = ps.length)
    (hb : ∀ (cdv : Value) (A : Around) (outer : List Env) (s : Shared) (H : Hp) (vs : List V) (Q : VK) (E : XK), Room k (A.deeper (envOfC qual (defScope st) s.heap.objs.size f cdv)) → A.guards = some [] → sp vs H Q E →
      ∃ t, PSs (cxOf CX0 P w K mg base N qual (defScope st) f cdv A outer s H E).nox (defBody st) t ∧ t { nx := fun _ H' => Q .non H', rt := Q } (start N vs) H) :
    FnG P w K mg base CX0 (k + 1) f fd ps sp := by
  obtain ⟨oc, od, kV, doc, pm, an, cdv, ct, osl, rfl, lk, hcd⟩ := F.ex
  refine fnG_of lk hcd S len ?_
  intro A outer s H vs Q E hr hG hsp
  have ⟨t, h, q⟩ := hb cdv A outer s H vs Q E hr hG hsp
  exact ⟨t, h.nox, q⟩
end

section
variable {X : Cx} {CX : CXT} {k : Nat} {f : Addr} {fd : FuncData} {ps : List Str} {sp : Sp} {dvs : List V} {ds : List Value} {E : XK} {x : Str} {p pos : Pos} {e : Expr} {es : List Expr} {t tk : TA}
theorem run_fnG {pins : List (Addr × Obj)} {σ : L2.St} {H : Hp} {s : Shared} {Q : VK} {args : Args} {us : List Value} {vs : List V} (F : FnG X.prog X.w X.K X.mg X.base CX k f fd ps sp) (hr : Room k X.A) (hG : X.A.guards = some [])
    (hx : Passes CX X E) (I : Inv X pins σ H s) (hb : BindsTo s fd args (ps.zip us)) (r : Vals vs us) (h : sp vs H Q E) : codeAny (model X.prog X.w) X.A (.call (.ref f) args) (fun r s' => match r with
      | .ok (.ret u) => EP X pins σ Q u s'
      | .ok _ => False
      | .error e => X.xe e s') s := by
  refine codeAny_mono (F.go X.A X.stack s H args us vs Q E hr hG I.env0 hb r h) ?_
  intro r s' hq
  match r, hq with
  | .error e, hq => exact hx pins σ H s e s' I hq
  | .ok (.ret u), hq => exact I.after hq
  | .ok .next, hq => exact hq.elim
  | .ok .brk, hq => exact hq.elim
  | .ok .cont, hq => exact hq.elim
theorem call_fnG {pins : List (Addr × Obj)} {σ : L2.St} {H : Hp} {s : Shared} {Q : VK} {us : List Value} {vs : List V} (F : FnG X.prog X.w X.K X.mg X.base CX k f fd ps sp) (hr : Room k X.A) (hG : X.A.guards = some []) (hb : Binds X.K fd ps ds)
    (hd : Vals dvs ds) (hx : Passes CX X E) (I : Inv X pins σ H s) (r : Vals vs us) (h : sp (vs ++ dvs) H Q E) : wpAny (model X.prog X.w) X.A (call (.ref f) us) (EP X pins σ Q) X.xe s := by
  have r2 : Vals (vs ++ dvs) (us ++ ds) := r.append hd
  have hl := r2.length
  rw [F.len _ _ _ _ h] at hl
  refine wpAny_call (codeAny_mono (run_fnG F hr hG hx I (hb s us I.kIn hl.symm) r2 h) ?_)
  intro r s' hq
  match r, hq with
  | .error e, hq => exact hq
  | .ok (.ret u), hq => exact hq
  | .ok .next, hq => exact hq.elim
  | .ok .brk, hq => exact hq.elim
  | .ok .cont, hq => exact hq.elim
/-- f(e, ..) -/
theorem pe_callG (F : FnG X.prog X.w X.K X.mg X.base CX k f fd ps sp) (hr : Room k X.A) (hG : X.A.guards = some []) (hg : Gl X x) (hm : X.mg x = some (.ref f)) (hk : PySem.W.keepIn X.K (.ref f) = true) (hb : Binds X.K fd ps ds) (hd : Vals dvs ds) (hx : Passes CX X E)
    (ha : PA X (e :: es) t) (hdb : (x == ("__debug__" : Str)) = false := by decide) (he : starEach (e :: es) X.env = (false, eval e X.env) :: starEach es X.env := by rfl)
    (hpl : (backTo pos (starEach es X.env)).any (·.1) = false := by rfl) : PE X (.Call (.Name x p) (e :: es) [] pos) (tCall sp dvs E t) := by
  constructor
  intro pins s σ H Q I h
  apply wpAny_Call_Name_kw
  apply ld_glob I hg hm _ hdb
  apply PySem.W.callWith_K (h₀ := X.base) I.ok.mod.kin hk _ he hpl
  apply thn (ha.run pos pins s σ H _ I h)
  rintro us s1 ⟨vs, H1, I1, r, q⟩
  exact ⟨I1.kIn, call_fnG F hr hG hb hd hx I1 r q⟩
variable {ks : List Str} {kws : List Keyword} {g : List Value → List Value → List Value} {gV : List V → List V → List V}
/-- f(k = v, ..) without positional arguments -/
theorem pe_callK0 (F : FnOk X.prog X.w X.K X.mg X.base CX k f fd ps sp) (hr : Room k X.A) (hg : Gl X x) (hm : X.mg x = some (.ref f)) (hk : PySem.W.keepIn X.K (.ref f) = true) (hb : KBinds X.K fd ps ks g gV) (hx : Passes CX X E) (hkw : PK X kws tk)
    (hall : (backToKw pos (keywordEach kws X.env)).all (·.1.isSome) = true := by rfl) (hks : (backToKw pos (keywordEach kws X.env)).filterMap (·.1) = ks := by rfl) (hdb : (x == ("__debug__" : Str)) = false := by decide)
    (hpl : ((backTo pos (starEach [] X.env)).any (·.1) || (backToKw pos (keywordEach kws X.env)).any (·.1.isNone)) = false := by rfl) :
    PE X (.Call (.Name x p) [] kws pos) (tCallK sp gV E tNil tk) := by
  constructor
  intro pins s σ H Q I h
  apply wpAny_Call_Name_kw
  apply ld_glob I hg hm _ hdb
  apply PySem.W.callWith_KW0 (h₀ := X.base) I.ok.mod.kin hk hall _ hpl
  apply thn (hkw.run pos pins s σ H _ I h)
  rintro ws s2 ⟨zs, H2, I2, rz, q2⟩
  refine ⟨I2.kIn, ?_⟩
  rw [hks]
  exact run_fnk (us := []) (vs := []) F hr hb hx I2 .nil rz q2
end

/-! ## repr of data -/
section
variable {X : Cx}
/-- what repr asks of a datum, and the text that it gives -/
def rRepr (K : PySem.W.Frag) : List V → Hp → VK → Prop := fun xs H Q => ∃ (a : Addr) (d : PyData), xs = [.ref a] ∧ Dp K H (.ref a) d ∧ d.showable = true ∧ d.hasDict = false ∧ d.depth ≤ 60 ∧ d.shown.length ≤ sizeLine ∧ Q (.str d.shown) H
theorem call_repr {k : Nat} (hr : Room k X.A) (hG : X.A.guards = some []) : CallR X (.builtin "repr") (rRepr X.K) := by
  intro pins s σ H xs us Q I r h
  obtain ⟨a, d, rfl, hd, h1, h2, h3, h4, q⟩ := h
  obtain ⟨u, rfl, ru⟩ : ∃ u, us = [u] ∧ RelV (.ref a) u := by
    cases r with
    | cons r1 r2 =>
      cases r2
      exact ⟨_, rfl, r1⟩
  cases ru
  obtain ⟨as, rd⟩ := Dp.reads I d _ _ hd rfl
  have hu := hr.un
  refine repr_of_reads' rd h1 (fun z => ?_) hG (by omega) (fun b o e => e) (fun h' u tk hk => ?_) h4
  · rw [h2] at z
    cases z
  · exact ⟨.str d.shown, H, I.kept hk, ⟨u, rfl⟩, q⟩
end
end Mo

/-! ## The law's own call, its promise run where no repr is under way -/
namespace Mo
open PySem PySem.Spec PyProof.Rows L2
theorem law_coreG {P : Program} {w : World} {K : PySem.W.Frag} {mg mb : Str → Option Value} {k : Nat} {fa a : Addr} {fd : FuncData} {x : Str} {sp : Sp} {s1 : Shared} {vs : List Value} {ns : List Int} {H : Hp}
    (KX : K.In s1.heap) (gl : s1.heap.Ns mainGlobals mg) (bl : s1.heap.Ns builtinsNs mb) (bb : ∀ x : Str, x ≠ "__name__" → mb x = bootBuiltins x) (lim : s1.heap.NoLimit) (gens : s1.gens = #[])
    (obj : s1.heap.get? a = some { cls := .type "list", data := .seq vs.toArray }) (hr : Room k callerA)
    (F : ∀ base : Heap, K.In base → base.Ns mainGlobals mg → FnG P w K mg base CX0 k fa fd [x] sp) (hbind : ∀ (s : Shared) (u : Value), BindsTo s fd ⟨[u], []⟩ [(x, u)])
    (only : Only H) (wish : sp [.ref a] H (fun v _ => v = .bl true) fun _ _ _ => False) (ok : HOk P w H s1.heap) (hA : ∀ b, H b ≠ none → b = a) (hK : H a ≠ none → K.lookup a = none) :
    codeAny (model P w) callerA (.call (.ref fa) ⟨[.ref a], []⟩) (fun r s' => r = .ok (.ret (.bool true)) ∧ OldK s1.heap s'.heap ∧ s'.os = s1.os ∧ AllBare s'.gens) s1 := by
  have free : ∀ {b : Addr} {o : Obj} {es : Array DictEntry} {ep : Nat}, s1.heap.get? b = some o → o.data = .dict es ep → H b = none := by
    intro b o es ep e d
    refine Classical.byContradiction fun n => ?_
    cases hA b n
    rw [obj] at e
    cases e
    cases (show Data.seq vs.toArray _ = Data.dict es ep from d)
  have names : ∀ {b : Addr} {m : Str → Option Value}, s1.heap.Ns b m → (hidT s1.heap H).Ns b m := by
    rintro b m ⟨o, es, ep, e, d, r⟩
    exact ⟨o, es, ep, hidT_get e (free e d), d, r⟩
  have kb : K.In (hidT s1.heap H) := by
    intro b o e
    refine hidT_get (KX b o e) (Classical.byContradiction fun n => ?_)
    cases hA b n
    rw [hK n] at e
    cases e
  have md : Mod K mg (hidT s1.heap H) := by
    obtain ⟨mc, l1, l2⟩ := lim
    exact ⟨kb, names gl, ⟨mb, names bl, bb⟩, ⟨mc, names l1, l2⟩⟩
  have env : Env0 P w K mg (hidT s1.heap H) callerA [] s1 H :=
    ⟨rfl, md, fun b o e => of_hidT e, Nat.le_of_eq (hidT_size _ _), trivial, fun b hb => absurd (show b ∈ ([] : List Addr) from hb) List.not_mem_nil, ok, .of_eq gens⟩
  refine codeAny_mono ((F _ kb (names gl)).go callerA [] s1 H ⟨[.ref a], []⟩ [.ref a] [.ref a] _ _ hr rfl env (hbind s1 (.ref a)) (.cons rfl .nil) wish) ?_
  intro r s' h
  match r, h with
  | .error e, h => exact h.elim
  | .ok .next, h => exact h.elim
  | .ok .brk, h => exact h.elim
  | .ok .cont, h => exact h.elim
  | .ok (.ret u), ⟨v, H', os, bare, un, ok', rv, q⟩ =>
    cases (show v = .bl true from q)
    cases (show u = Value.bool true from rv)
    refine ⟨rfl, OldK.of_keep ?_, os, bare⟩
    intro b o e
    cases z : H b with
    | none => exact un.keep b o e z (fun y => absurd (show b ∈ ([] : List Addr) from y) List.not_mem_nil) List.not_mem_nil
    | some u =>
      cases only b with
      | inl y =>
        rw [z] at y
        cases y
      | inr y =>
        obtain ⟨ob, xs, y⟩ := y
        have e1 := (ok b _ y).1
        have e2 := (ok' b _ (un.frzs b ob _ y)).1
        rw [e] at e1
        cases e1
        exact e2
theorem law_callG {P : Program} {w : World} {K : PySem.W.Frag} {mg mb : Str → Option Value} {k : Nat} {fa a : Addr} {fd : FuncData} {x : Str} {sp : Sp} {s1 : Shared} {vs : List Value} {ns : List Int}
    (KX : K.In s1.heap) (gl : s1.heap.Ns mainGlobals mg) (bl : s1.heap.Ns builtinsNs mb) (bb : ∀ x : Str, x ≠ "__name__" → mb x = bootBuiltins x) (lim : s1.heap.NoLimit) (gens : s1.gens = #[])
    (obj : s1.heap.get? a = some { cls := .type "list", data := .seq vs.toArray }) (hi : IntsAre vs ns) (hl : ns.length ≤ sizeLine) (hr : Room k callerA)
    (F : ∀ base : Heap, K.In base → base.Ns mainGlobals mg → FnG P w K mg base CX0 k fa fd [x] sp) (hbind : ∀ (s : Shared) (u : Value), BindsTo s fd ⟨[u], []⟩ [(x, u)])
    (wish : ∀ H : Hp, Only H → SqL K H a (ns.map V.int) → sp [.ref a] H (fun v _ => v = .bl true) fun _ _ _ => False) :
    codeAny (model P w) callerA (.call (.ref fa) ⟨[.ref a], []⟩) (fun r s' => r = .ok (.ret (.bool true)) ∧ OldK s1.heap s'.heap ∧ s'.os = s1.os ∧ AllBare s'.gens) s1 := by
  have rv := vals_ints hi
  have lenV := hi.length
  by_cases hk : K.lookup a = none
  · let H : Hp := upd (fun _ => none) a (.frz { cls := .type "list", data := .seq vs.toArray } (.lst (ns.map V.int)))
    have at1 : H a = some (.frz { cls := .type "list", data := .seq vs.toArray } (.lst (ns.map V.int))) := upd_same
    have at2 : ∀ b, b ≠ a → H b = none := fun b hb => upd_ne hb
    refine law_coreG (H := H) (ns := ns) KX gl bl bb lim gens obj hr F hbind ?_ ?_ ?_ ?_ (fun _ => hk)
    · intro b
      by_cases hb : b = a
      · cases hb
        exact Or.inr ⟨_, _, at1⟩
      · exact Or.inl (at2 b hb)
    · refine wish H ?_ (Or.inl (Or.inr ⟨_, at1⟩))
      intro b
      by_cases hb : b = a
      · cases hb
        exact Or.inr ⟨_, _, at1⟩
      · exact Or.inl (at2 b hb)
    · intro b u e
      by_cases hb : b = a
      · cases hb
        rw [at1] at e
        cases e
        exact ⟨obj, by rw [List.length_map]; exact hl, vs, _, rv, obj⟩
      · rw [at2 b hb] at e
        cases e
    · intro b n
      exact Classical.byContradiction fun hb => n (at2 b hb)
  · obtain ⟨o, hk⟩ := Option.ne_none_iff_exists'.mp hk
    have e := KX a o hk
    rw [obj] at e
    cases e
    refine law_coreG (H := fun _ => none) (ns := ns) KX gl bl bb lim gens obj hr F hbind (fun _ => Or.inl rfl) (wish _ (fun _ => Or.inl rfl) ?_) ?_ (fun b n => (n rfl).elim) (fun n => (n rfl).elim)
    · exact Or.inr ⟨_, vs.toArray, _, hk, rfl, rfl, rfl, by rw [List.size_toArray, lenV]; exact hl, by simpa using rv⟩
    · intro b u z
      cases z
/-- the goal that k_head leaves, from the law's promise; the script's bits told -/
theorem walk_G {l : PySem.W.OpenLaw} {n k : Nat} {q : Program} {loose : List Str} {XP : (Str → Option Value) → Heap → Prop} {YP : World → Heap → Prop} {d : DefRec} {K : Params → PySem.W.Frag} {sp : World → Sp} {x : Str}
    (hn : l.most = some n) (hn2 : n ≤ sizeLine) (hdf : d.params.defaults = []) (hr : Room k callerA) (hY : ∀ (w : World) (h : Heap), YP w h → (K w.params).In h)
    (F : ∀ (w : World) (mg : Str → Option Value) (fa : Addr) (h : Heap), (K w.params).In h → h.Ns mainGlobals mg → mg d.name = some (.ref fa) → ∃ fd : FuncData, (∀ (s : Shared) (u : Value), BindsTo s fd ⟨[u], []⟩ [(x, u)]) ∧
        ∀ base : Heap, (K w.params).In base → base.Ns mainGlobals mg → FnG l.prog w (K w.params) mg base CX0 k fa fd [x] (sp w))
    (wish : ∀ (w : World) (H : Hp) (a : Addr) (ns : List Int), ns.length ≤ n → (∀ z ∈ ns, Builtin.Int.intBits z ≤ 1048576) → Only H → SqL (K w.params) H a (ns.map V.int) → sp w [.ref a] H (fun v _ => v = .bl true) fun _ _ _ => False) :
    PySem.W.WalkO q loose XP YP l.row.toRowW d [] (fun f vs => PySem.call f vs) := by
  apply Att.attach_callB hn hdf
  intro w s0 s1 mg mb fa o pm cd doc a vs ns G Y _ _ _ hmg hobj hints hlen hbits hg
  have KX := hY w _ Y
  obtain ⟨fd, hb, hF⟩ := F w mg fa _ KX G.T.g hmg
  exact law_callG KX G.T.g G.T.b G.T.builtins G.T.nolimit hg hobj hints (Nat.le_trans hlen hn2) hr hF hb fun H hO hS => wish w H a ns hlen hbits hO hS
end Mo
set_option Elab.async false
set_option linter.all false
set_option maxRecDepth 100000
set_option maxHeartbeats 4000000
namespace Mo
open PySem PySem.Spec PyProof.Rows L2

/-! ## all arguments by name -/
def gK {α : Type} (us ws : List α) : List α := match us with | [] => ws | _ :: _ => []
theorem kb_all {K : PySem.W.Frag} {fd : FuncData} {ps ks : List Str} (hp : ps ≠ []) (h : ∀ us : List Value, us.length = ps.length → bindArgs fd ⟨[], ks.zip us⟩ = pure (ps.zip us)) : KBinds K fd ps ks gK gK := by
  constructor
  · intro s us ws _ hl
    cases us with
    | nil => exact .of_eq (h ws hl)
    | cons a l =>
      exfalso
      apply hp
      exact List.length_eq_zero_iff.mp hl.symm
  · intro vs us zs ws r1 r2
    cases r1 with
    | nil => exact r2
    | cons _ _ => exact .nil
theorem Fun_kb {K : PySem.W.Frag} {x qual : Str} {st : Stmt} {f : Addr} {fd : FuncData} {ps ks : List Str} (F : Fun K x qual st f fd) (hp : ps ≠ [])
    (h : ∀ (kV doc pm : Value) (an : Option Addr) (cdv ct : Value) (us : List Value), us.length = ps.length → bindArgs (PySem.W.fnOf x qual (defArgs st) (defBody st) (defScope st) .none kV doc pm an cdv ct) ⟨[], ks.zip us⟩ = pure (ps.zip us)) :
    KBinds K fd ps ks gK gK := by
  obtain ⟨oc, od, kV, doc, pm, an, cdv, ct, osl, rfl, lk, hcd⟩ := F.ex
  exact kb_all hp (h kV doc pm an cdv ct)

/-! ## the kinds of things, isinstance -/
inductive Ty7 where
  | non | bl | int | str | tup | lst | dic
  deriving DecidableEq
def Ty7.nm : Ty7 → String
  | .non => "NoneType" | .bl => "bool" | .int => "int" | .str => "str" | .tup => "tuple" | .lst => "list" | .dic => "dict"
def Ty7.isi : Ty7 → Ty7 → Bool
  | .non, .non => true | .bl, .bl => true | .bl, .int => true | .int, .int => true | .str, .str => true | .tup, .tup => true | .lst, .lst => true | .dic, .dic => true | _, _ => false
theorem kit7 {K : PySem.W.Frag} (a b : Ty7) (hb : b ≠ .non) : PySem.W.kitOne K (.type a.nm) (.type b.nm) = some (a.isi b) := by
  cases b
  case non => exact absurd rfl hb
  all_goals (cases a <;> exact kit_ty (by decide +kernel))
/-- every sign below 128 -/
def Asc (z : Str) : Prop := ∀ c ∈ z.cps.toList, c < 128
theorem cps_app (x y : Str) : (x ++ y).cps.toList = x.cps.toList ++ y.cps.toList := PySem.W.KT.app_list x y
theorem Asc.app {x y : Str} (hx : Asc x) (hy : Asc y) : Asc (x ++ y) := by
  intro c hc
  rw [cps_app] at hc
  exact (List.mem_append.mp hc).elim (hx c) (hy c)
theorem Asc.by {x : Str} (h : x.cps.toList.all (fun c => decide (c < 128)) = true) : Asc x := fun c hc => of_decide_eq_true (List.all_eq_true.mp h c hc)
theorem Asc.one {z : Str} (h : Asc z) {c : Nat} (hc : c ∈ z.cps.toList) : Asc ⟨#[c]⟩ := by
  intro d hd
  have : d = c := by simpa using hd
  rw [this]
  exact h c hc
theorem Asc.num (i : Int) : Asc (Str.ofString (toString i)) := by
  intro c hc
  rw [Str.ofString_eq_toList] at hc
  obtain ⟨d, hd, rfl⟩ := List.mem_map.mp hc
  exact int_ascii i d hd
theorem Asc.ok {z : Str} (h : Asc z) : PyData.strOk z = true := by
  unfold PyData.strOk
  rw [Array.all_eq_true_iff_forall_mem]
  intro c hc
  have := h c (by simpa using hc)
  exact decide_eq_true (by omega)
theorem dp_strs {K : PySem.W.Frag} {H : Hp} : ∀ l : List Str, DpAll K H (l.map V.str) (l.map PyData.str)
  | [] => .nil
  | y :: l => .cons (.str y) (dp_strs l)
theorem dp_bls {K : PySem.W.Frag} {H : Hp} : ∀ l : List Bool, DpAll K H (l.map V.bl) (l.map PyData.bool)
  | [] => .nil
  | y :: l => .cons (.bl y) (dp_bls l)
theorem lay_strs : ∀ {l : List Str}, (∀ y ∈ l, Asc y) → PyData.canLayAll0 (l.map PyData.str) = true ∧ PyData.depthAll (l.map PyData.str) = 0
  | [], _ => ⟨rfl, rfl⟩
  | y :: l, h => by
    obtain ⟨h1, h2⟩ := lay_strs fun z hz => h z (List.mem_cons_of_mem _ hz)
    constructor
    · show (PyData.strOk y && PyData.canLayAll0 (l.map PyData.str)) = true
      rw [(h y List.mem_cons_self).ok, h1]
      rfl
    · show max 0 (PyData.depthAll (l.map PyData.str)) = 0
      rw [h2]
      rfl
theorem shaped_strs {l : List Str} (h : ∀ y ∈ l, Asc y) : SeqAt.shaped (.list (l.map PyData.str)) = true := by
  obtain ⟨h1, h2⟩ := lay_strs h
  unfold SeqAt.shaped
  rw [Bool.and_eq_true]
  refine ⟨h1, decide_eq_true ?_⟩
  show PyData.depthAll (l.map PyData.str) + 1 ≤ 64
  omega
/-- a thing of one of the seven kinds; a text of at most 5000 plain signs -/
inductive Th (H : Hp) : V → Ty7 → Prop where
  | non : Th H .non .non
  | bl (b : Bool) : Th H (.bl b) .bl
  | int (i : Int) : Th H (.int i) .int
  | str (z : Str) (h : z.length ≤ 5000) (a : Asc z) : Th H (.str z) .str
  | tup {a : Addr} {xs : List V} (h : H a = some (.tup xs)) : Th H (.ref a) .tup
  | lst {a : Addr} {xs : List V} (h : H a = some (.lst xs)) : Th H (.ref a) .lst
  | dK {a : Addr} {kvs : List (Key × V)} (h : H a = some (.dK kvs)) : Th H (.ref a) .dic
  | dT {a : Addr} {kvs : List (List Key × V)} (h : H a = some (.dT kvs)) : Th H (.ref a) .dic
theorem Th.ty {K : PySem.W.Frag} {H : Hp} {v : V} {n : Ty7} (t : Th H v n) : TyX K H v (.type n.nm) := by
  cases t with
  | non => exact .base .non
  | bl b => exact .base (.bl b)
  | int i => exact .base (.int i)
  | str z _ _ => exact .base (.str z)
  | tup h => exact .base (.tup h)
  | lst h => exact .base (.lst h)
  | dK h => exact .base (.dK h)
  | dT h => exact .base (.dT h)
theorem Th.same {H H' : Hp} {v : V} {n : Ty7} (t : Th H v n) (e : Same H H') : Th H' v n := by
  cases t with
  | non => exact .non
  | bl b => exact .bl b
  | int i => exact .int i
  | str z h a => exact .str z h a
  | tup h => exact .tup (e _ _ h)
  | lst h => exact .lst (e _ _ h)
  | dK h => exact .dK (e _ _ h)
  | dT h => exact .dT (e _ _ h)
theorem same_new {H : Hp} {p : Addr} {o : HO} (h : H p = none) : Same H (upd H p o) := fun b u e => by
  rw [upd_ne (ne_of_none e h)]
  exact e
/-- isinstance(x, T) -/
theorem isi_ok {K : PySem.W.Frag} {H : Hp} {v : V} {n : Ty7} {Q : VK} (t : Th H v n) (c : Ty7) (hc : c ≠ .non) (q : Q (.bl (n.isi c)) H) : rIsi K [v, .ty c.nm] H Q :=
  ⟨v, .ty c.nm, .type n.nm, .type c.nm, n.isi c, rfl, .ty _, t.ty, kit7 n c hc, q⟩

/-- things of the seven kinds -/
def AllTh (H : Hp) (xs : List V) : Prop := ∀ x ∈ xs, ∃ n, Th H x n
theorem AllTh.nil (H : Hp) : AllTh H [] := fun _ h => (List.not_mem_nil h).elim
theorem AllTh.cons {H : Hp} {x : V} {xs : List V} {n : Ty7} (t : Th H x n) (h : AllTh H xs) : AllTh H (x :: xs) := by
  intro y hy
  cases List.mem_cons.mp hy with
  | inl e =>
    subst e
    exact ⟨n, t⟩
  | inr e => exact h y e
theorem AllTh.app {H : Hp} {xs ys : List V} (h : AllTh H xs) (k : AllTh H ys) : AllTh H (xs ++ ys) := fun y hy => (List.mem_append.mp hy).elim (h y) (k y)
theorem AllTh.same {H H' : Hp} {xs : List V} (h : AllTh H xs) (e : Same H H') : AllTh H' xs := fun y hy => let ⟨n, t⟩ := h y hy; ⟨n, t.same e⟩
theorem log_le {m : Int} {k : Nat} (h0 : 0 < k) (h : m.natAbs < 2 ^ k) (hk : k ≤ 1920) : m.natAbs.log2 < 1920 := Nat.lt_of_lt_of_le (PySem.Flt.log2_lt_of h0 h) hk
/-! ## names of the module -/
section
variable {X : Cx} {x : Str} {pos : Pos}
theorem pe_gS {z : Str} {t : Tok} (hm : X.mg x = some (.str z t)) (hg : Gl X x := by rfl) (hd : (x == ("__debug__" : Str)) = false := by decide) : PE X (.Name x pos) (tC (.str z)) := pe_glob hg hm ⟨_, rfl⟩ hd
theorem pe_gI {i : Int} {t : Tok} (hm : X.mg x = some (.int i t)) (hg : Gl X x := by rfl) (hd : (x == ("__debug__" : Str)) = false := by decide) : PE X (.Name x pos) (tC (.int i)) := pe_glob hg hm ⟨_, rfl⟩ hd
theorem pe_gR {a : Addr} (hm : X.mg x = some (.ref a)) (hg : Gl X x := by rfl) (hd : (x == ("__debug__" : Str)) = false := by decide) : PE X (.Name x pos) (tC (.ref a)) := pe_glob hg hm rfl hd
theorem pe_ty (T : String) (hm : X.mg x = none) (hv : bootBuiltins x = some (.type T) := by decide +kernel) (hg : Gl X x := by rfl) (hn : x ≠ "__name__" := by decide) (hd : (x == ("__debug__" : Str)) = false := by decide) : PE X (.Name x pos) (tC (.ty T)) := pe_bltn hg hm hv rfl hn hd
end
theorem inV_strs (z : Str) (l : List Str) : inV (.str z) (l.map V.str) = decide (z ∈ l) := by
  induction l with
  | nil => rfl
  | cons y l ih =>
    show ((y == z) || inV (.str z) (l.map V.str)) = _
    rw [ih]
    by_cases h : y = z
    · subst h
      simp
    · have h2 : ¬ z = y := fun e => h e.symm
      simp [h, h2]
theorem len5000 {n : Nat} (h : n ≤ 5000) : n ≤ sizeLine := Nat.le_trans h (by decide)
theorem lt5000 {n : Nat} (h : n < 5000) : n < sizeLine := Nat.lt_trans h (by decide)
theorem at_in {α : Type} {l : List α} {d : Int} (h0 : 0 ≤ d) (h1 : d < (l.length : Int)) : ∃ c, atI l d = some c ∧ c ∈ l := by
  obtain ⟨j, rfl⟩ := Int.eq_ofNat_of_zero_le h0
  have hj : j < l.length := by omega
  exact ⟨l[j], atI_nat (by simp [hj]), List.getElem_mem hj⟩
theorem Asc.cut {z : Str} (h : Asc z) (lo hi : Option Int) : Asc (cutS z lo hi) := by
  intro c hc
  refine h c ?_
  have hc : c ∈ ((z.cps.toList.drop (HT.sIx z.length 0 lo)).take (HT.sIx z.length z.length hi - HT.sIx z.length 0 lo)) := by
    have := hc
    simpa [cutS] using this
  exact List.mem_of_mem_drop (List.mem_of_mem_take hc)
theorem cut_two (z : Str) {a : Int} (h : 0 ≤ a) : (cutS z none (some a)).length + (cutS z (some a) none).length ≤ z.length := by
  have e : ∀ d, HT.sIx z.length d (some a) = min a.toNat z.length := fun d => if_neg (by omega)
  have e1 : (cutS z none (some a)).length = min (HT.sIx z.length z.length (some a) - 0) z.length := by
    show (((z.cps.toList.drop 0).take (HT.sIx z.length z.length (some a) - 0)).toArray).size = _
    rw [List.size_toArray, List.length_take, List.length_drop, Array.length_toList]
    rfl
  have e2 : (cutS z (some a) none).length = min (z.length - HT.sIx z.length 0 (some a)) (z.length - HT.sIx z.length 0 (some a)) := by
    show (((z.cps.toList.drop (HT.sIx z.length 0 (some a))).take (z.length - HT.sIx z.length 0 (some a))).toArray).size = _
    rw [List.size_toArray, List.length_take, List.length_drop, Array.length_toList]
    rfl
  rw [e1, e2, e, e]
  omega
theorem one_length (c : Nat) : (⟨#[c]⟩ : Str).length = 1 := rfl
theorem app_length (x y : Str) : (x ++ y).length = x.length + y.length := strLen_append x y
/-! ## the source of draws -/
def Src (H : Hp) (a : Addr) : Prop := ∃ x y c : Int, H a = some (.lst [.int x, .int y, .int c]) ∧ 0 ≤ x ∧ x ≤ 2147483587
/-- all that was known stays, but for what stands at a -/
def KeepBut (a : Addr) (H H' : Hp) : Prop := ∀ b o, b ≠ a → H b = some o → H' b = some o
theorem KeepBut.refl (a : Addr) (H : Hp) : KeepBut a H H := fun _ _ _ h => h
theorem KeepBut.trans {a : Addr} {H H1 H2 : Hp} (x : KeepBut a H H1) (y : KeepBut a H1 H2) : KeepBut a H H2 := fun b o n h => y b o n (x b o n h)
theorem KeepBut.of_same {a : Addr} {H H' : Hp} (e : Same H H') : KeepBut a H H' := fun b o _ h => e b o h
theorem KeepBut.upd (a : Addr) (H : Hp) (o : HO) : KeepBut a H (L2.upd H a o) := fun b u n h => by
  rw [upd_ne n]
  exact h
theorem Src.same {H H' : Hp} {a : Addr} (s : Src H a) (e : Same H H') : Src H' a := by
  obtain ⟨x, y, c, h, r⟩ := s
  exact ⟨x, y, c, e _ _ h, r⟩
/-- what a draw promises -/
def spTake : Sp := fun vs H Q _ => ∃ (a : Addr) (m : Int), vs = [.ref a, .int m] ∧ Src H a ∧ 0 < m ∧ m < 1073741824 ∧ ∀ (d : Int) (H' : Hp), 0 ≤ d → d < m → Src H' a → KeepBut a H H' → Q (.int d) H'
def spSource : Sp := fun vs H Q _ => ∃ n : Int, vs = [.int n] ∧ ∀ (p : Addr) (H' : Hp), H p = none → Same H H' → Src H' p → Q (.ref p) H'
def spNumber (K : PySem.W.Frag) : Sp := fun vs H Q _ => ∃ (a : Addr) (ns : List Int) (k : Int), vs = [.ref a, .int k] ∧ SqL K H a (ns.map V.int) ∧ (∀ z ∈ ns, Builtin.Int.intBits z ≤ 1048576) ∧ 0 ≤ k ∧ k ≤ 1000 ∧
  ∀ (n : Int) (H' : Hp), Same H H' → Q (.int n) H'
end Mo
set_option Elab.async false
set_option linter.all false
set_option maxRecDepth 100000
set_option maxHeartbeats 4000000
namespace Mo
open PySem PySem.Spec PyProof.Rows L2

/-- a tuple of the written part -/
theorem sqt_K {K : PySem.W.Frag} {H : Hp} {a : Addr} {dd : Option Addr} {vs : Array Value} {n : Nat} {sl : Array (Option Value)} {xs : List V} (h : K.lookup a = some ⟨.type "tuple", dd, .seq vs n, sl⟩) (hz : vs.size ≤ sizeLine) (r : Vals xs vs.toList) : SqT K H a xs :=
  .inr ⟨_, vs, n, h, rfl, rfl, hz, r⟩
theorem kit_of_sub {K : PySem.W.Frag} {C : Addr} {T : String} {b : Bool} (ci : PySem.W.isClsIn K C = true) (tc : PySem.W.typeIn K (.ref C) = some (.type "type")) (sb : PySem.W.subIn K (.type T) (.ref C) = some b) : PySem.W.kitOne K (.type T) (.ref C) = some b := by
  unfold PySem.W.kitOne
  rw [if_neg (show ¬ (Value.type T == Value.ref C) = true from Bool.false_ne_true)]
  show (if ((PySem.W.clsIn K C).isSome && PySem.W.typeIn K (.ref C) == some (.type "type")) = true then PySem.W.subIn K (.type T) (.ref C) else none) = some b
  rw [tc, show (PySem.W.clsIn K C).isSome = true from ci]
  exact sb
theorem kit_self {K : PySem.W.Frag} (v : Value) : PySem.W.kitOne K v v = some true := by
  unfold PySem.W.kitOne
  rw [if_pos (by simp)]
/-! ## a def called beneath a built-in of this frame -/
section
variable {X : Cx} {CX : CXT} {k : Nat} {f C : Addr} {fd : FuncData} {ps : List Str} {sp : Sp} {E : XK}
theorem run_under {pins : List (Addr × Obj)} {σ : L2.St} {H : Hp} {s : Shared} {Q : VK} {us : List Value} {vs : List V} {A : Around} (F : FnOk X.prog X.w X.K X.mg X.base CX k f fd ps sp) (hr : Room k A) (hfr : A.frames = X.A.frames)
    (hb : Binds X.K fd ps []) (hx : Passes CX X E) (I : Inv X pins σ H s) (r : Vals vs us) (h : sp vs H Q E) : wpAny (model X.prog X.w) A (call (.ref f) us) (EP X pins σ Q) X.xe s := by
  have hl := r.length
  rw [F.len _ _ _ _ h] at hl
  have e0 : Env0 X.prog X.w X.K X.mg X.base A X.stack s H := by
    have e := I.env0
    exact ⟨by rw [hfr]; exact e.frames, e.mod, e.bs, e.bsz, e.funs, e.frf, e.hok, e.bare⟩
  have hbs := hb s us I.kIn (by rw [List.append_nil]; exact hl.symm)
  rw [List.append_nil] at hbs
  refine wpAny_call (codeAny_mono (F.run A X.stack s H ⟨us, []⟩ us vs Q E hr e0 hbs r h) ?_)
  intro r s' hq
  match r, hq with
  | .error e, hq => exact hx pins σ H s e s' I hq
  | .ok (.ret u), hq => exact I.after hq
  | .ok .next, hq => exact hq.elim
  | .ok .brk, hq => exact hq.elim
  | .ok .cont, hq => exact hq.elim
/-- what is asked of a class's own special method -/
structure Spc (K : PySem.W.Frag) (C : Addr) (n : Str) (f : Addr) : Prop where
  at_ : PySem.W.findIn K (.ref C) n = some (some (.ref f))
  fn : PySem.W.isFn K (.ref f) = true
/-- repr(o) by the own __repr__ -/
theorem call_reprO (F : FnOk X.prog X.w X.K X.mg X.base CX k f fd ps sp) (hr : Room (k + 1) X.A) (S : Spc X.K C "__repr__" f) (hb : Binds X.K fd ps []) (hx : Passes CX X E) :
    CallR X (.builtin "repr") (fun xs H Q => ∃ a dx fs, xs = [.ref a] ∧ H a = some (.ins C dx fs) ∧ sp [.ref a] H (fun v H' => ∃ z : Str, v = .str z ∧ Q v H') E) := by
  intro pins s σ H xs us Q I r h
  obtain ⟨a, dx, fs, rfl, ha, h⟩ := h
  obtain ⟨u, rfl, ru⟩ := vals1 r
  cases ru
  obtain ⟨mA, J, _⟩ := ins_get I.hok ha
  obtain ⟨od, J, _⟩ := J.look
  obtain ⟨m, hF⟩ := I.fr
  have hu := hr.un
  refine PySem.W.repr_K (by show X.A.units + 1 < cLine; omega) hF I.ok.mod.kin J S.at_ S.fn ?_
  refine wpAny_mono (run_under (A := X.A.in1) (vs := [.ref a]) F hr.in1 rfl hb hx I (.cons rfl .nil) h) (fun v s' hv => ?_) fun _ _ e => e
  obtain ⟨v', H', I', rv, z, rfl, q⟩ := hv
  obtain ⟨t, rfl⟩ := rv
  exact ⟨.str z, H', I', ⟨t, rfl⟩, q⟩
/-- len(o) by the own __len__ -/
theorem call_lenO (F : FnOk X.prog X.w X.K X.mg X.base CX k f fd ps sp) (hr : Room (k + 1) X.A) (S : Spc X.K C "__len__" f) (hb : Binds X.K fd ps []) (hx : Passes CX X E) :
    CallR X (.builtin "len") (fun xs H Q => ∃ a dx fs, xs = [.ref a] ∧ H a = some (.ins C dx fs) ∧ sp [.ref a] H (fun v H' => ∃ n : Int, v = .int n ∧ (0 ≤ n ∧ n < 2 ^ 63) ∧ Q v H') E) := by
  intro pins s σ H xs us Q I r h
  obtain ⟨a, dx, fs, rfl, ha, h⟩ := h
  obtain ⟨u, rfl, ru⟩ := vals1 r
  cases ru
  obtain ⟨mA, J, _⟩ := ins_get I.hok ha
  obtain ⟨od, J, _⟩ := J.look
  obtain ⟨m, hF⟩ := I.fr
  refine PySem.W.len_K hF I.ok.mod.kin J S.at_ S.fn ?_
  refine wpAny_mono (run_under (A := X.A.in1) (vs := [.ref a]) F hr.in1 rfl hb hx I (.cons rfl .nil) h) (fun v s' hv => ?_) fun _ _ e => e
  obtain ⟨v', H', I', rv, n, rfl, hn, q⟩ := hv
  obtain ⟨t, rfl⟩ := rv
  exact ⟨hn, .int n, H', I'.tok _, ⟨_, rfl⟩, q⟩

/-- o == y by the own __eq__: what y is must be known -/
def rEqO (K : PySem.W.Frag) (C : Addr) (sp : Sp) (E : XK) (g : Bool → Bool) : R2 := fun x y H Q => ∃ a dx fs t, x = .ref a ∧ H a = some (.ins C dx fs) ∧ TyX K H y t ∧ PySem.W.notFirst K C t = true ∧
  sp [x, y] H (fun v H' => ∃ b, v = .bl b ∧ Q (.bl (g b)) H') E
theorem op_eqO (F : FnOk X.prog X.w X.K X.mg X.base CX k f fd ps sp) (hr : Room k X.A) (S : Spc X.K C "__eq__" f) (hb : Binds X.K fd ps []) (hx : Passes CX X E) : OpR X (compareOp .Eq) (rEqO X.K C sp E id) := by
  intro pins s σ H x y v u Q I rx ry h
  obtain ⟨a, dx, fs, t, rfl, ha, ty, hn, h⟩ := h
  cases rx
  obtain ⟨mA, J, _⟩ := ins_get I.hok ha
  obtain ⟨od, J, _⟩ := J.look
  obtain ⟨m, hF⟩ := I.fr
  obtain ⟨P, Z, p, _⟩ := kit_of I ry ty
  show wpAny (model X.prog X.w) X.A (richCompare .Eq (.ref a) u) (EP X pins σ Q) X.xe s
  refine PySem.W.cmp_K (op := .Eq) (tb := t) hr.units0 hF I.ok.mod.kin J (Z.ty _ _ I.kIn p) hn S.at_ S.fn ?_
  refine wpAny_mono (run_under (A := X.A) (vs := [.ref a, y]) F hr rfl hb hx I (.cons rfl (.cons ry .nil)) h) (fun v s' hv => ?_) fun _ _ e => e
  obtain ⟨v', H', I', rv, b, rfl, q⟩ := hv
  cases rv
  exact ⟨.bl b, H', I', rfl, q⟩
end
end Mo
namespace MoNe
open PySem PySem.W PySem.Calls PyProof.Rows
theorem ne_bind (self : Value) : bindSpecial (.builtin "object.__ne__") self = pure (.builtin "object.__ne__", [self]) :=
  (Slot.of (T := "object") (name := "__ne__") (owner := "object") (n := "__ne__") (by rw [typeLookup_type, builtinLookup_eq_fast]; kernel_rfl) (by decide +kernel) (by decide +kernel) (by decide +kernel)
    (by first | exact .inl (by decide +kernel) | exact .inr (by decide +kernel)) (by rw [isSubtype_type]; kernel_rfl)).bind self
section
variable {prog : Program} {w : World} {A : Around} {E : Value → Shared → Prop} {s : Shared} {K : Frag} {x C f : Addr} {ox : Obj} {od : Option Obj} {b tb : Value}
theorem ne_code {R : Result → Shared → Prop} (hu : A.units + 1 < cLine) (X : K.In s.heap) (I : InstAt s.heap x ox C od) (he : findIn K (.ref C) "__eq__" = some (some (.ref f))) (hf : isFn K (.ref f) = true) (hm : mroIn K C (.type "object") = some true)
    (h : wpAny (model prog w) A.in1 (call (.ref f) [.ref x, b]) (fun v s' => ∃ r, v = .bool r ∧ R (.ok (.ret (.bool (!r)))) s') (fun e s' => R (.error e) s') s) :
    codeAny (model prog w) A (.call (.builtin "object.__ne__") ⟨[.ref x, b], []⟩) R s := by
  have sub : Looks (model prog w) s.heap (isInstance (.ref x) (.type "object")) true := I.type.andThen (looks_mroIn X hm)
  obtain ⟨hp, g, d, t, os⟩ := s
  refine codeAny_call_builtin (by decide +kernel) PySem.F.cmpEntry_ne (@check_slot (model prog w) _ _ ⟨hp, g, d, t, os⟩ "object.__ne__" "object" "__ne__" (.ref x) [b] [] _ PySem.F.cmpKind_ne PySem.F.cmpSplit_ne sub (PySem.F.cmpArgs_ne _ _) ?_)
  have go : wpAny (model prog w) A.in1 (callSpecialIfBound? (.ref x) "__eq__" [b]) (fun v s' => ∃ r, v = some (.bool r) ∧ R (.ok (.ret (.bool (!r)))) s') (fun e s' => R (.error e) s') ⟨hp, g, d, t, os⟩ :=
    ifBound_K X I he hf (wpAny_mono h (fun v s' hv => let ⟨r, e, q⟩ := hv; ⟨r, by rw [e], q⟩) fun _ _ e => e)
  unfold Builtin.«object.__ne__»
  refine wpAny_bind (wpAny_pure ?_)
  refine wpAny_bind (wpAny_cRoomFor (by show A.units + 1 < cLine; omega) ?_)
  refine wpAny_bind (wpAny_mono go (fun v s' hv => ?_) fun _ _ e => e)
  obtain ⟨r, rfl, q⟩ := hv
  exact wpAny_bind (wpAny_pure (wpAny_pure q))
theorem ne_K {L : Addr} {h₀ : Heap} {m : Str → Option Value} {Q : Value → Shared → Prop} (hu : A.units + 1 < cLine) (F : Fr h₀ L s.heap m) (X₀ : K.In h₀) (I : InstAt s.heap x ox C od) (hb : Looks (model prog w) s.heap (typeOf b) tb) (hn : notFirst K C tb = true)
    (hs : findIn K (.ref C) "__ne__" = some (some (.builtin "object.__ne__"))) (he : findIn K (.ref C) "__eq__" = some (some (.ref f))) (hf : isFn K (.ref f) = true) (hm : mroIn K C (.type "object") = some true)
    (h : wpAny (model prog w) A.in1 (call (.ref f) [.ref x, b]) (fun v s' => ∃ r, v = .bool r ∧ Q (.bool (!r)) s') E s) : wpAny (model prog w) A (richCompare .NotEq (.ref x) b) Q E s := by
  have X := X₀.keeps F.keep
  have one : wpAny (model prog w) A (tryCompare (.ref x) "__ne__" b) (fun r s' => ∃ v, r = some v ∧ Q v s') E s := by
    unfold tryCompare
    have go : wpAny (model prog w) A (call (.builtin "object.__ne__") [.ref x, b]) (fun v s' => ∃ r, v = .bool r ∧ Q (.bool r) s') E s :=
      wpAny_call (ne_code hu X I he hf hm (wpAny_mono h (fun v s' hv => let ⟨r, e, q⟩ := hv; ⟨r, e, _, rfl, q⟩) fun _ _ e => e))
    have fin : wpAny (model prog w) A (call (.builtin "object.__ne__") ([.ref x] ++ [b]) >>= fun v => pure (some v)) (fun r s' => ∃ q, r = some (.bool q) ∧ Q (.bool q) s') E s :=
      wpAny_bind (wpAny_mono go (fun v s' hv => let ⟨r, e, q⟩ := hv; wpAny_pure ⟨r, by rw [e], q⟩) fun _ _ e => e)
    refine wpAny_bind (m := callSpecialIfBound? (.ref x) "__ne__" [b]) ?_
    refine wpAny_mono (Q := fun r s' => ∃ q, r = some (.bool q) ∧ Q (.bool q) s') ?_ (fun r s' hr => ?_) (fun _ _ e => e)
    · simp only [callSpecialIfBound?, bindSpecialIfBound?]
      refine wpAny_holding (wpAny_bind (wpAny_bind (wpAny_bind (I.type.here ((looks_findIn X hs).here ?_)))))
      refine wpAny_bind (wpAny_askSetting (wpAny_ite ?_))
      split
      · exact wpAny_bind (wpAny_of_eq (ne_bind _) (wpAny_pure (by exact fin)))
      · exact wpAny_tryCatch (wpAny_bind (wpAny_of_eq (ne_bind _) (wpAny_pure (by exact fin))))
    · obtain ⟨q, rfl, hq⟩ := hr
      exact wpAny_pure ⟨_, rfl, hq⟩
  unfold richCompare
  simp only [oneThing_ref]
  refine wpAny_holding (wpAny_bind (wpAny_cRoomFor (by omega) ?_))
  refine wpAny_bind (I.type.here (wpAny_bind (hb.here ?_)))
  have fin : ∀ r s', (∃ v, r = some v ∧ Q v s') → ∃ v, r = some v ∧ Q v s' := fun _ _ h => h
  split
  · rename_i q
    have e : subIn K tb (.ref C) = some false := by
      rcases Bool.or_eq_true_iff.mp hn with e | e
      · rw [beq_iff_eq.mp e] at q
        simp at q
      · exact beq_iff_eq.mp e
    refine wpAny_bind ((looks_subIn X e).here ?_)
    simp only [Bool.false_eq_true, if_false]
    refine wpAny_bind (wpAny_mono one ?_ fun _ _ e => e)
    rintro r s' ⟨v, rfl, hq⟩
    exact wpAny_pure hq
  · refine wpAny_bind (wpAny_pure ?_)
    simp only [Bool.false_eq_true, if_false]
    refine wpAny_bind (wpAny_mono one ?_ fun _ _ e => e)
    rintro r s' ⟨v, rfl, hq⟩
    exact wpAny_pure hq
end
end MoNe
namespace Mo
open PySem PySem.Spec PyProof.Rows L2
section
variable {X : Cx} {CX : CXT} {k : Nat} {f C : Addr} {fd : FuncData} {ps : List Str} {sp : Sp} {E : XK}
/-- o != y: by the own __eq__, turned -/
theorem op_neO (F : FnOk X.prog X.w X.K X.mg X.base CX k f fd ps sp) (hr : Room (k + 1) X.A) (S : Spc X.K C "__eq__" f) (hne : PySem.W.findIn X.K (.ref C) "__ne__" = some (some (.builtin "object.__ne__"))) (hm : PySem.W.mroIn X.K C (.type "object") = some true)
    (hb : Binds X.K fd ps []) (hx : Passes CX X E) : OpR X (compareOp .NotEq) (rEqO X.K C sp E not) := by
  intro pins s σ H x y v u Q I rx ry h
  obtain ⟨a, dx, fs, t, rfl, ha, ty, hn, h⟩ := h
  cases rx
  obtain ⟨mA, J, _⟩ := ins_get I.hok ha
  obtain ⟨od, J, _⟩ := J.look
  obtain ⟨m, hF⟩ := I.fr
  obtain ⟨P, Z, p, _⟩ := kit_of I ry ty
  have hu := hr.un
  show wpAny (model X.prog X.w) X.A (richCompare .NotEq (.ref a) u) (EP X pins σ Q) X.xe s
  refine MoNe.ne_K (tb := t) (by omega) hF I.ok.mod.kin J (Z.ty _ _ I.kIn p) hn hne S.at_ S.fn hm ?_
  refine wpAny_mono (run_under (A := X.A.in1) (vs := [.ref a, y]) F hr.in1 rfl hb hx I (.cons rfl (.cons ry .nil)) h) (fun v s' hv => ?_) fun _ _ e => e
  obtain ⟨v', H', I', rv, b, rfl, q⟩ := hv
  cases rv
  exact ⟨b, rfl, .bl (!b), H', I', rfl, q⟩
/-- t.count(x), data -/
theorem mt_tcount (hu : X.A.units + 66 < cLine) : MtR X "tuple.count" (fun x xs H Q => ∃ (a : Addr) (y : V) (d : PyData) (ds : List PyData) (zs : List V), x = V.ref a ∧ xs = [y] ∧ SqT X.K H a zs ∧ DpAll X.K H zs ds ∧ Dp X.K H y d ∧
    PyData.canLayAll0 ds = true ∧ SeqAt.shaped d = true ∧ Q (.int (ds.countP fun z => PyData.eqv z d : Nat)) H) := by
  intro pins s σ H x xs v us Q I rx rs h
  obtain ⟨a, y, d, ds, zs, rfl, rfl, hq, hz, hd, sd, se, q⟩ := h
  cases rx
  obtain ⟨u, rfl, ru⟩ := vals1 rs
  obtain ⟨its, r, pl, _⟩ := I.tuple hq
  obtain ⟨⟨cls, dd, dt, sl⟩, ho, hc, n, hdt⟩ := pl
  simp only at hc hdt
  subst hc
  subst hdt
  obtain ⟨as, r1⟩ := Dp.readsAll I ds zs its hz r
  obtain ⟨bs, r2⟩ := Dp.reads I d y u hd ru
  have e1 : (its.toArray.toList.countP fun y => PyData.eqv (SeqAt.readOf s.heap y) d) = ds.countP fun z => PyData.eqv z d := by
    rw [← SeqAt.readsAll_map ds _ _ sd r1, List.countP_map]
    rfl
  have dp := SeqAt.depth_of_shaped se
  refine call_meets PySem.F.slot_tuple_count ⟨_, ho, rfl⟩ PySem.F.entry_tuple_count (PySem.F.args_tuple_count_2 _ _) (SeqAt.tuple_countAt a its.toArray n dd sl u (fun y => PyData.eqv (SeqAt.readOf s.heap y) d))
    ⟨ho, ?_, ?_⟩
  · refine SeqAt.items_eqAt (by simpa using r1) r2 sd (SeqAt.canLay_of_shaped se) ?_
    have := Nat.min_le_right (PyData.depthAll ds) d.depth
    show X.A.units + 1 + _ < cLine
    omega
  · rw [e1]
    exact ⟨.int _, H, I.tok _, ⟨_, rfl⟩, q⟩
end
end Mo
namespace MoEn
open PySem
open Sem (wp)
open AutoSeq1 (wpAny_loadPart')
set_option maxHeartbeats 1000000 in
theorem new_tup (l : Addr) (items : Array Value) (n : Nat) (dct : Option Addr) (sl : Array (Option Value)) :
    Meets (Builtin.«enumerate.__new__» ⟨[.type "enumerate", .ref l], []⟩) (fun _ R s => s.heap.get? l = some { cls := .type "tuple", dict := dct, data := .seq items n, slots := sl } ∧
      R (.ok (.ret (.ref (s.heap.push { cls := .type "tuple_iterator", data := .fields #[.ref l, .int 0 0] }).objs.size)))
        { s with heap := (s.heap.push { cls := .type "tuple_iterator", data := .fields #[.ref l, .int 0 0] }).push { cls := .type "enumerate", data := .fields #[.none, .bool false, .ref s.heap.objs.size, rawInt 0, .none, .none] } }) := by
  refine .of_wp ?_
  rintro prog w A R ⟨hp, g, d, tk, os⟩ ⟨hl, h⟩
  have hsub := sub_enumerate
  have hL : Heap.IsTuple (Shared.heap ⟨hp, g, d, tk, os⟩) l items := ⟨_, hl, rfl, n, rfl⟩
  wp_walk using wpAny_loadPart' hl
  refine wpAny_stack_any fun st => wpAny_pure ?_
  split
  · rename_i c _ _ _ _ _
    cases (c == Value.type "enumerate") <;> (wp_walk using wpAny_loadPart' hl, wpAny_pyIter_tuple hL; exact ⟨_, rfl, h⟩)
  · wp_walk using wpAny_loadPart' hl, wpAny_pyIter_tuple hL
    exact ⟨_, rfl, h⟩
theorem call_tup {prog : Program} {w : World} {A : Around} {E : Value → Shared → Prop} {s : Shared} {l : Addr} {items : Array Value} {Q : Value → Shared → Prop} (hL : s.heap.IsTuple l items)
    (h : ∀ h', IsEnum h' (s.heap.objs.size + 1) s.heap.objs.size 0 .none → h'.IsTupleIter s.heap.objs.size l 0 → (∀ b o, s.heap.get? b = some o → h'.get? b = some o) → Q (.ref (s.heap.objs.size + 1)) { s with heap := h' }) :
    wpAny (model prog w) A (call (.type "enumerate") [.ref l]) Q E s := by
  obtain ⟨⟨c, dct, dt, sl⟩, hl, hc, n, hd⟩ := hL
  cases (show c = .type "tuple" from hc)
  cases (show dt = .seq items n from hd)
  refine callType_new F.called_enumerate (by decide) (F.typeCall_enumerate_1 _) (F.newCall_enumerate_1 _) (fun obj => F.args_object_init_2 obj _) F.entry_enumerate_new (new_tup l items n dct sl) ⟨hl, ?_⟩
  have sz : (s.heap.push { cls := .type "tuple_iterator", data := .fields #[.ref l, .int 0 0] }).objs.size = s.heap.objs.size + 1 := Heap.size_push ..
  show _ ∧ _
  rw [sz]
  have en := Heap.get?_push_size (s.heap.push { cls := .type "tuple_iterator", data := .fields #[.ref l, .int 0 0] }) (o := { cls := .type "enumerate", data := .fields #[.none, .bool false, .ref s.heap.objs.size, rawInt 0, .none, .none] }) rfl
  rw [sz] at en
  exact ⟨⟨_, en, rfl⟩, h _ en ⟨_, Heap.get?_push_of_some _ (Heap.get?_push_size _ rfl), rfl, rfl⟩ fun b o x => Heap.get?_push_of_some _ (Heap.get?_push_of_some _ x)⟩
end MoEn
namespace Mo
open PySem PySem.Spec PyProof.Rows L2
/-- enumerate(tuple): the tuple at a, each item in a new pair -/
def IteT (K : PySem.W.Frag) (a : Addr) : It :=
  ⟨fun i H => ∃ (xs : List V) (x : V), SqT K H a xs ∧ xs[i]? = some x, fun i H v H' => ∃ T x, v = .ref T ∧ H T = none ∧ H' = upd H T (.tup [.int (i : Nat), x]) ∧ ∀ xs, SqT K H a xs → xs[i]? = some x, fun i H => ∃ xs : List V, SqT K H a xs ∧ xs.length = i⟩
theorem turn_enumT {P : Program} {w : World} {K : PySem.W.Frag} {elts : List Expr} {kk : Nat} {tpos : Pos} (a e it : Addr) (hae : a ≠ e) (hai : a ≠ it) :
    Turn P w K (.Tuple elts kk tpos) (IteT K a) [e, it] e (fun i h => (∃ old, IsEnum h e it ((i : Nat) : Int) old) ∧ h.IsTupleIter it a i ∧ e ≠ it) where
  mem := List.mem_cons_self
  obj := by
    rintro i h ⟨⟨old, he⟩, ⟨o, ho, hc, hd⟩, _⟩ b hb
    rcases List.mem_cons.mp hb with rfl | hb
    · exact ⟨_, he, fun v q => nomatch q⟩
    · cases List.mem_singleton.mp hb
      refine ⟨o, ho, fun v q => ?_⟩
      rw [hd] at q
      cases q
  keep := by
    rintro i h h' ⟨⟨old, he⟩, hi, hne⟩ k
    exact ⟨⟨old, k e (by simp) _ he⟩, hi.at fun o q => k it (by simp) o q, hne⟩
  item := by
    intro X hP hw hK hc i pins s σ H E I hf st hg
    subst hP hw hK
    obtain ⟨⟨old, he⟩, hit, hne⟩ := st
    obtain ⟨xs, x, hq, hx⟩ := hg
    obtain ⟨its, rv, p, hz⟩ := I.tuple hq
    obtain ⟨u, hu, ru⟩ := rv.get hx
    have hil : i < its.toArray.size := by
      rw [List.size_toArray]
      exact (List.getElem?_eq_some_iff.mp hu).1
    have hel : e < s.heap.objs.size := Heap.lt_size he
    have hit2 : it < s.heap.objs.size := by
      obtain ⟨_, q, _⟩ := hit
      exact Heap.lt_size q
    refine wpAny_pyNext_enum_itemD (Draws.tuple (A := X.A.in1) (I.ok.hd hc) it a hai its.toArray) he ⟨hit, p⟩ hil hne (by simp [hne, Ne.symm hae]) ?_
    intro y h' tk hy ho hst hT hsz hk
    have ey : y = u := by
      have : its.toArray[i]? = some y := hy
      rw [List.getElem?_toArray, hu] at this
      exact (Option.some.inj this).symm
    subst ey
    refine ⟨_, rfl, wpAny_letOwnedTupleGo_enum (s := { s with heap := h', toks := tk + 1 }) ho fun h'' he' sb => ?_⟩
    have hT2 : h''.get? s.heap.objs.size = some { cls := .type "tuple", data := .seq #[.int i tk, y] } := (sb.2 _ (Nat.ne_of_gt hel)).trans hT
    have new : ObjOk X.prog X.w (upd H s.heap.objs.size (.tup [.int (i : Nat), x])) h'' s.heap.objs.size (.tup [.int (i : Nat), x]) :=
      ⟨by show 2 ≤ sizeLine; decide, [.int i tk, y], .cons ⟨_, rfl⟩ (.cons ru .nil), ⟨_, hT2, rfl, _, rfl⟩⟩
    have I1 : Inv X pins σ (upd H s.heap.objs.size (.tup [.int (i : Nat), x])) { s with heap := h'', toks := tk + 1 } := by
      refine I.turnedNew (ch := [e, it]) ?_ hf (Nat.le_refl _) new
      intro b ob hb q
      have h1 : b ≠ e := fun z => hb (by simp [z])
      have h2 : b ≠ it := fun z => hb (by simp [z])
      exact (sb.2 b h1).trans (hk b ob h1 h2 q)
    refine ⟨.ref s.heap.objs.size, _, I1, rfl, ⟨_, x, rfl, I.hok.fresh (Nat.le_refl _), rfl, fun ys hy2 => ?_⟩, ⟨⟨y, ?_⟩, hst.1.at fun o q => (sb.2 it (Ne.symm hne)).trans q, hne⟩, fun b hb => ?_⟩
    · rw [I.tuple_inj hy2 hq]
      exact hx
    · have e1 : ((i + 1 : Nat) : Int) = (i : Int) + 1 := by omega
      rw [e1]
      exact he'
    · have hb' : b < s.heap.objs.size := by
        rcases List.mem_cons.mp hb with rfl | hb
        · exact hel
        · cases List.mem_singleton.mp hb
          exact hit2
      rw [upd_ne (Nat.ne_of_lt hb')]
      exact (hf b hb).1
  done := by
    intro X hP hw hK hc i pins s σ H E I hf st hg
    subst hP hw hK
    obtain ⟨⟨old, he⟩, hit, hne⟩ := st
    obtain ⟨xs, hq, hx⟩ := hg
    obtain ⟨its, rv, p, hz⟩ := I.tuple hq
    obtain ⟨f0, f1, f2, f3, f4, f5⟩ := hf it (by simp)
    have hi : i = its.toArray.size := by
      rw [List.size_toArray, ← rv.length]
      exact hx.symm
    subst hi
    refine wpAny_pyNext_enum_endD (Draws.tuple (A := X.A.in1) (I.ok.hd hc) it a hai its.toArray) he ⟨hit, p⟩ ?_
    intro h' eb
    exact ⟨rfl, I.turned (t' := s.toks) (fun b o hb q => eb b o hb q) f0 f1 f3 f4 f5⟩
  self := fun A i s Q E st h => let ⟨⟨_, he⟩, _⟩ := st; wpAny_pyIter_enum he h
def iEnumT (K : PySem.W.Frag) (ta : TA) : TI := fun σ H R => ta σ H fun vs H1 => ∃ a xs, vs = [.ref a] ∧ SqT K H1 a xs ∧ R (IteT K a) H1
theorem pi_enumT {X : Cx} {e : Expr} {ta : TA} {p pos tpos : Pos} {elts : List Expr} {kk : Nat} (hg : Gl X "enumerate") (hm : X.mg "enumerate" = none) (ha : PA X [e] ta) (hs : starEach [e] X.env = [(false, eval e X.env)] := by rfl) :
    PI X (.Tuple elts kk tpos) (.Call (.Name "enumerate" p) [e] [] pos) (iEnumT X.K ta) := by
  constructor
  intro pins s σ H R I h
  refine Call_ (ld_blt I hg hm boot_enumerate (PyProof.Rows.callWith_type1 (thn (ha.run pos pins s σ H _ I h) ?_) hs rfl))
  rintro us s1 ⟨vs, H1, I1, r1, a, xs, rfl, hq, q⟩
  obtain ⟨u, rfl, ru⟩ := vals1 r1
  cases ru
  obtain ⟨its, rv, p', hz⟩ := I1.tuple hq
  have hlt : a < s1.heap.objs.size := by
    obtain ⟨_, z, _⟩ := id p'
    exact Heap.lt_size z
  refine MoEn.call_tup p' fun h' he hit hk => wpAny_pyIter_enum he ?_
  have I2 : Inv X pins σ H1 { s1 with heap := h' } := I1.kept (t' := s1.toks) hk
  refine ⟨s1.heap.objs.size + 1, [s1.heap.objs.size + 1, s1.heap.objs.size], _, _, H1, rfl, I2, turn_enumT a (s1.heap.objs.size + 1) s1.heap.objs.size (Nat.ne_of_lt (Nat.lt_succ_of_lt hlt)) (Nat.ne_of_lt hlt), ⟨⟨.none, he⟩, hit, Nat.succ_ne_self _⟩, fun b hb => ?_, q⟩
  have hle : s1.heap.objs.size ≤ b := by
    rcases List.mem_cons.mp hb with rfl | hb
    · exact Nat.le_add_right _ _
    · cases List.mem_singleton.mp hb
      exact Nat.le_refl _
  exact I1.fpOk hle (I1.hok.fresh hle)
theorem walk_enumT {K : PySem.W.Frag} {a : Addr} {xs : List V} : Walk (IteT K a) xs.length (fun H => SqT K H a xs) (fun i H v H' => ∃ T x, v = .ref T ∧ H T = none ∧ H' = upd H T (.tup [.int (i : Nat), x]) ∧ xs[i]? = some x) :=
  ⟨fun i _ hi q => ⟨xs, xs[i], q, by simp [hi]⟩, fun _ q => ⟨xs, q, rfl⟩, fun i H x H' _ q y => let ⟨T, z, h1, h2, h3, h4⟩ := y; ⟨T, z, h1, h2, h3, h4 xs q⟩⟩
end Mo
set_option Elab.async false
set_option linter.all false
set_option maxRecDepth 100000
set_option maxHeartbeats 4000000
namespace Mo
open PySem
/-! ## repr tells plain data apart -/
abbrev cp (z : Str) : List Nat := z.cps.toList
theorem str_ext {x y : Str} (h : cp x = cp y) : x = y := by
  obtain ⟨a⟩ := x
  obtain ⟨b⟩ := y
  have : a = b := by
    have h2 : a.toList = b.toList := h
    rw [← Array.toArray_toList (xs := a), h2]
  rw [this]
/-- a plain sign: from the space to the tilde, no quote and no backslash -/
def Aln (c : Nat) : Bool := (decide (32 ≤ c) && decide (c ≤ 126)) && (decide (c ≠ 39) && decide (c ≠ 92))
def AlnT (z : Str) : Prop := ∀ c ∈ cp z, Aln c = true
theorem aln_lt {c : Nat} (h : Aln c = true) : c < 128 := by
  unfold Aln at h
  simp only [Bool.and_eq_true, decide_eq_true_eq] at h
  omega
theorem aln_char {c : Nat} (h : Aln c = true) : Builtin.Str.reprChar 39 c = [c] := by
  have all : (List.range 128).all (fun c => !Aln c || decide (Builtin.Str.reprChar 39 c = [c])) = true := by decide +kernel
  have := List.all_eq_true.mp all c (List.mem_range.mpr (aln_lt h))
  rw [h] at this
  simpa using this
theorem fold_aln (q : Nat) (hq : q = 39) : ∀ (l : List Nat) (acc : Array Nat), (∀ c ∈ l, Aln c = true) → (l.foldl (fun out c => out ++ (Builtin.Str.reprChar q c).toArray) acc).toList = acc.toList ++ l
  | [], acc, _ => by simp
  | c :: r, acc, h => by
    subst hq
    rw [List.foldl_cons, fold_aln 39 rfl r _ (fun d hd => h d (List.mem_cons_of_mem _ hd)), aln_char (h c List.mem_cons_self)]
    simp
theorem quote_aln {z : Str} (h : AlnT z) : reprQuote z = 39 := by
  unfold reprQuote
  have hn : z.cps.contains 39 = false := by
    rw [← Bool.not_eq_true, Array.contains_iff_mem]
    intro hm
    have := h 39 (by simpa using hm)
    exact absurd this (by decide)
  rw [hn]
  rfl
theorem repr_aln {z : Str} (h : AlnT z) : cp (reprText z) = 39 :: (cp z ++ [39]) := by
  unfold cp reprText
  rw [quote_aln h, ← Array.foldl_toList]
  simp only [Array.toList_push]
  rw [fold_aln 39 rfl _ _ h]
  simp
theorem cp_join2 (x y : Str) (r : List Str) : cp (Str.join ", " (x :: y :: r)) = cp x ++ ([44, 32] ++ cp (Str.join ", " (y :: r))) := by
  show cp (x ++ ", " ++ Str.join ", " (y :: r)) = _
  show (x ++ ", " ++ Str.join ", " (y :: r)).cps.toList = _
  rw [cps_app, cps_app, List.append_assoc]
  rfl
/-! plain data: nothing, numbers from 0 on, texts of letters and figures, tuples and lists of these -/
mutual
def Pl : PyData → Prop
  | .none => True
  | .int i => 0 ≤ i ∧ i.natAbs.log2 < 1920
  | .str z => AlnT z
  | .tuple ds => PlAll ds
  | .list ds => PlAll ds
  | .bool _ => False
  | .dict _ => False
def PlAll : List PyData → Prop
  | [] => True
  | d :: ds => Pl d ∧ PlAll ds
end
def isFig (c : Nat) : Bool := decide (48 ≤ c) && decide (c ≤ 57)
/-- what stands behind a datum: nothing, or something that does not begin with a figure -/
def Beh (r : List Nat) : Prop := ∀ c t, r = c :: t → isFig c = false
theorem beh_cons {c : Nat} {t : List Nat} (h : isFig c = false) : Beh (c :: t) := by
  intro d u e
  injection e with e1 _
  rw [← e1]
  exact h
theorem figs_part : ∀ (l m r s : List Nat), (∀ c ∈ l, isFig c = true) → (∀ c ∈ m, isFig c = true) → Beh r → Beh s → l ++ r = m ++ s → l = m ∧ r = s
  | [], [], _, _, _, _, _, _, e => ⟨rfl, e⟩
  | [], c :: m, r, s, _, hm, hr, _, e => by
    have := hr c (m ++ s) e
    rw [hm c List.mem_cons_self] at this
    cases this
  | c :: l, [], r, s, hl, _, _, hs, e => by
    have := hs c (l ++ r) e.symm
    rw [hl c List.mem_cons_self] at this
    cases this
  | c :: l, d :: m, r, s, hl, hm, hr, hs, e => by
    injection e with e1 e2
    obtain ⟨h1, h2⟩ := figs_part l m r s (fun x hx => hl x (List.mem_cons_of_mem _ hx)) (fun x hx => hm x (List.mem_cons_of_mem _ hx)) hr hs e2
    exact ⟨by rw [e1, h1], h2⟩
theorem aln_part : ∀ (l m r s : List Nat), (∀ c ∈ l, Aln c = true) → (∀ c ∈ m, Aln c = true) → l ++ 39 :: r = m ++ 39 :: s → l = m ∧ r = s
  | [], [], _, _, _, _, e => ⟨rfl, by injection e⟩
  | [], c :: m, r, s, _, hm, e => by
    injection e with e1 _
    have := hm c List.mem_cons_self
    rw [← e1] at this
    exact absurd this (by decide)
  | c :: l, [], r, s, hl, _, e => by
    injection e with e1 _
    have := hl c List.mem_cons_self
    rw [e1] at this
    exact absurd this (by decide)
  | c :: l, d :: m, r, s, hl, hm, e => by
    injection e with e1 e2
    obtain ⟨h1, h2⟩ := aln_part l m r s (fun x hx => hl x (List.mem_cons_of_mem _ hx)) (fun x hx => hm x (List.mem_cons_of_mem _ hx)) e2
    exact ⟨by rw [e1, h1], h2⟩
theorem num_cp (n : Nat) : cp (Str.ofString (toString (n : Int))) = (Nat.toDigits 10 n).map Char.toNat := PySem.W.KIN.signs_num n
theorem num_figs (n : Nat) : ∀ c ∈ cp (Str.ofString (toString (n : Int))), isFig c = true := by
  intro c hc
  rw [num_cp] at hc
  obtain ⟨d, hd, rfl⟩ := List.mem_map.mp hc
  have := Nat.isDigit_of_mem_toDigits (by decide) (by decide) hd
  unfold Char.isDigit at this
  simp only [Bool.and_eq_true, decide_eq_true_eq] at this
  unfold isFig
  rw [Bool.and_eq_true, decide_eq_true_eq, decide_eq_true_eq]
  exact ⟨UInt32.le_iff_toNat_le.mp this.1, UInt32.le_iff_toNat_le.mp this.2⟩
theorem num_ne (n : Nat) : ∃ c t, cp (Str.ofString (toString (n : Int))) = c :: t := by
  cases e : cp (Str.ofString (toString (n : Int))) with
  | nil =>
    rw [num_cp] at e
    have := List.map_eq_nil_iff.mp e
    exact absurd this Nat.toDigits_ne_nil
  | cons c t => exact ⟨c, t, rfl⟩
theorem num_inj {n m : Nat} (h : cp (Str.ofString (toString (n : Int))) = cp (Str.ofString (toString (m : Int)))) : n = m := by
  rw [num_cp, num_cp] at h
  rw [← PySem.W.KIN.val_back n, ← PySem.W.KIN.val_back m, h]
theorem cp_int {i : Int} (h : 0 ≤ i) : ∃ n : Nat, i = (n : Int) ∧ cp (PyData.int i).shown = cp (Str.ofString (toString (n : Int))) := by
  obtain ⟨n, rfl⟩ := Int.eq_ofNat_of_zero_le h
  exact ⟨n, rfl, rfl⟩
/-- the items with what closes them -/
def its (cl : List Nat) : List PyData → List Nat
  | [] => cl
  | [d] => cp d.shown ++ cl
  | d :: e :: ds => cp d.shown ++ ([44, 32] ++ its cl (e :: ds))
theorem its_join (cl : List Nat) : ∀ ds : List PyData, its cl ds = cp (Str.join ", " (PyData.shownAll ds)) ++ cl
  | [] => rfl
  | [d] => rfl
  | d :: e :: ds => by
    have ih := its_join cl (e :: ds)
    show cp d.shown ++ ([44, 32] ++ its cl (e :: ds)) = cp (Str.join ", " (d.shown :: e.shown :: PyData.shownAll ds)) ++ cl
    rw [ih, cp_join2]
    simp [PyData.shownAll]
theorem cp_list (ds : List PyData) : cp (PyData.list ds).shown = 91 :: its [93] ds := by
  have e : (PyData.list ds).shown = listText (PyData.shownAll ds) := by rw [PyData.shown]
  rw [e, listText_eq_join, its_join]
  show (("[" : Str) ++ Str.join ", " (PyData.shownAll ds) ++ "]").cps.toList = _
  rw [cps_app, cps_app]
  rfl
theorem shownAll_len : ∀ ds : List PyData, (PyData.shownAll ds).length = ds.length
  | [] => rfl
  | d :: ds => by
    show (PyData.shownAll ds).length + 1 = _
    rw [shownAll_len ds]
    rfl
def tcl (ds : List PyData) : List Nat := if ds.length = 1 then [44, 41] else [41]
theorem cp_tup (ds : List PyData) : cp (PyData.tuple ds).shown = 40 :: its (tcl ds) ds := by
  have e : (PyData.tuple ds).shown = tupleText (PyData.shownAll ds) := by rw [PyData.shown]
  rw [e, its_join]
  show (("(" : Str) ++ Str.join ", " (PyData.shownAll ds) ++ ((if (PyData.shownAll ds).length == 1 then ",)" else ")" : String) : Str)).cps.toList = _
  rw [cps_app, cps_app, shownAll_len]
  unfold tcl
  by_cases h : ds.length = 1
  · rw [if_pos h]
    simp only [h]
    rfl
  · rw [if_neg h]
    have : (ds.length == 1) = false := by simpa using h
    rw [this]
    rfl
theorem cp_none : cp PyData.none.shown = [78, 111, 110, 101] := by decide +kernel
/-- the first sign of a datum -/
theorem first_sign : ∀ {d : PyData}, Pl d → ∃ c t, cp d.shown = c :: t ∧ (match d with | .none => c = 78 | .int _ => isFig c = true | .str _ => c = 39 | .tuple _ => c = 40 | .list _ => c = 91 | _ => False)
  | .none, _ => ⟨78, _, cp_none, rfl⟩
  | .int i, h => by
    obtain ⟨n, rfl, e⟩ := cp_int h.1
    obtain ⟨c, t, e2⟩ := num_ne n
    exact ⟨c, t, e.trans e2, num_figs n c (by rw [e2]; exact List.mem_cons_self)⟩
  | .str z, h => ⟨39, _, (congrArg cp (PyData.shown_str z)).trans (repr_aln h), rfl⟩
  | .tuple ds, _ => ⟨40, _, cp_tup ds, rfl⟩
  | .list ds, _ => ⟨91, _, cp_list ds, rfl⟩
theorem same_first {d e : PyData} {r s : List Nat} (hd : Pl d) (he : Pl e) (h : cp d.shown ++ r = cp e.shown ++ s) :
    (d = .none ∧ e = .none) ∨ (∃ i j, d = .int i ∧ e = .int j) ∨ (∃ x y, d = .str x ∧ e = .str y) ∨ (∃ x y, d = .tuple x ∧ e = .tuple y) ∨ (∃ x y, d = .list x ∧ e = .list y) := by
  obtain ⟨c, t, h1, h2⟩ := first_sign hd
  obtain ⟨c', t', h3, h4⟩ := first_sign he
  rw [h1, h3] at h
  injection h with hc _
  subst hc
  cases d <;> cases e <;> simp only at h2 h4 <;> first
    | exact h2.elim
    | exact h4.elim
    | exact .inl ⟨rfl, rfl⟩
    | exact .inr (.inl ⟨_, _, rfl, rfl⟩)
    | exact .inr (.inr (.inl ⟨_, _, rfl, rfl⟩))
    | exact .inr (.inr (.inr (.inl ⟨_, _, rfl, rfl⟩)))
    | exact .inr (.inr (.inr (.inr ⟨_, _, rfl, rfl⟩)))
    | (exfalso; subst h2; exact absurd h4 (by decide))
    | (exfalso; subst h4; exact absurd h2 (by decide))
/-- what may close items -/
def Clo (cl : List Nat) : Prop := cl = [93] ∨ cl = [41] ∨ cl = [44, 41]
theorem clo_tup (ds : List PyData) : Clo (tcl ds) := by
  unfold tcl
  split
  · exact .inr (.inr rfl)
  · exact .inr (.inl rfl)
/-- the items behind the first one -/
def tls (cl : List Nat) : List PyData → List Nat
  | [] => cl
  | d :: ds => [44, 32] ++ (cp d.shown ++ tls cl ds)
theorem its_tls (cl : List Nat) : ∀ (d : PyData) (ds : List PyData), its cl (d :: ds) = cp d.shown ++ tls cl ds
  | d, [] => rfl
  | d, e :: ds => by
    show cp d.shown ++ ([44, 32] ++ its cl (e :: ds)) = _
    rw [its_tls cl e ds]
    rfl
theorem beh_tls {cl : List Nat} (h : Clo cl) (r : List Nat) : ∀ ds : List PyData, Beh (tls cl ds ++ r)
  | [] => by rcases h with rfl | rfl | rfl <;> exact beh_cons rfl
  | d :: ds => beh_cons rfl
theorem its_first {cl : List Nat} (h : cl = [93] ∨ cl = [41]) {e : PyData} {r s : List Nat} (he : Pl e) : cl ++ r = cp e.shown ++ s → False := by
  obtain ⟨c, t, h1, h2⟩ := first_sign he
  rw [h1]
  intro h3
  rcases h with rfl | rfl
  · injection h3 with h4 _
    subst h4
    cases e <;> simp only at h2 <;> first | exact absurd h2 (by decide) | exact h2
  · injection h3 with h4 _
    subst h4
    cases e <;> simp only at h2 <;> first | exact absurd h2 (by decide) | exact h2
def PartD (n : Nat) : Prop := ∀ (d e : PyData) (r s : List Nat), sizeOf d ≤ n → Pl d → Pl e → Beh r → Beh s → cp d.shown ++ r = cp e.shown ++ s → d = e ∧ r = s
def PartL (n : Nat) : Prop := ∀ (ds es : List PyData) (c1 c2 r s : List Nat), sizeOf ds ≤ n → Clo c1 → Clo c2 → PlAll ds → PlAll es → tls c1 ds ++ r = tls c2 es ++ s → ds = es ∧ c1 ++ r = c2 ++ s
theorem part_items {n : Nat} (hD : PartD n) (hL : PartL n) {x y : List PyData} {c1 c2 r s : List Nat} (hx : sizeOf x ≤ n) (k1 : Clo c1) (k2 : Clo c2) (e1 : x = [] → c1 = [93] ∨ c1 = [41]) (e2 : y = [] → c2 = [93] ∨ c2 = [41])
    (hd : PlAll x) (he : PlAll y) (h : its c1 x ++ r = its c2 y ++ s) : x = y ∧ c1 ++ r = c2 ++ s := by
  cases x with
  | nil =>
    cases y with
    | nil => exact ⟨rfl, h⟩
    | cons e es =>
      rw [its_tls, List.append_assoc] at h
      exact (its_first (e1 rfl) he.1 h).elim
  | cons d ds =>
    cases y with
    | nil =>
      rw [its_tls, List.append_assoc] at h
      exact (its_first (e2 rfl) hd.1 h.symm).elim
    | cons e es =>
      rw [its_tls, its_tls, List.append_assoc, List.append_assoc] at h
      have hs : sizeOf (d :: ds) = 1 + sizeOf d + sizeOf ds := rfl
      obtain ⟨h1, h2⟩ := hD d e _ _ (by omega) hd.1 he.1 (beh_tls k1 r ds) (beh_tls k2 s es) h
      obtain ⟨h3, h4⟩ := hL ds es _ _ r s (by omega) k1 k2 hd.2 he.2 h2
      exact ⟨by rw [h1, h3], h4⟩
theorem part_all : ∀ n, PartD n ∧ PartL n
  | 0 => by
    constructor
    · intro d e r s hz
      exfalso
      cases d <;> (simp at hz)
    · intro ds es c1 c2 r s hz
      exfalso
      cases ds <;> (simp at hz)
  | n + 1 => by
    obtain ⟨hD, hL⟩ := part_all n
    constructor
    · intro d e r s hz hd he hr hs h
      rcases same_first hd he h with ⟨rfl, rfl⟩ | ⟨i, j, rfl, rfl⟩ | ⟨x, y, rfl, rfl⟩ | ⟨x, y, rfl, rfl⟩ | ⟨x, y, rfl, rfl⟩
      · exact ⟨rfl, List.append_cancel_left h⟩
      · obtain ⟨n, rfl, e1⟩ := cp_int hd.1
        obtain ⟨m, rfl, e2⟩ := cp_int he.1
        rw [e1, e2] at h
        obtain ⟨h1, h2⟩ := figs_part _ _ r s (num_figs n) (num_figs m) hr hs h
        exact ⟨by rw [num_inj h1], h2⟩
      · rw [PyData.shown_str, PyData.shown_str, repr_aln hd, repr_aln he] at h
        have h : cp x ++ [39] ++ r = cp y ++ [39] ++ s := by injection h
        rw [List.append_assoc, List.append_assoc] at h
        obtain ⟨h1, h2⟩ := aln_part _ _ r s hd he h
        exact ⟨by rw [str_ext h1], h2⟩
      · rw [cp_tup, cp_tup] at h
        have h : its (tcl x) x ++ r = its (tcl y) y ++ s := by injection h
        have hs : sizeOf (PyData.tuple x) = 1 + sizeOf x := PyData.tuple.sizeOf_spec x
        obtain ⟨h1, h2⟩ := part_items hD hL (by omega) (clo_tup _) (clo_tup _) (fun e => .inr (by rw [e]; rfl)) (fun e => .inr (by rw [e]; rfl)) hd he h
        subst h1
        exact ⟨rfl, List.append_cancel_left h2⟩
      · rw [cp_list, cp_list] at h
        have h : its [93] x ++ r = its [93] y ++ s := by injection h
        have hs : sizeOf (PyData.list x) = 1 + sizeOf x := PyData.list.sizeOf_spec x
        obtain ⟨h1, h2⟩ := part_items hD hL (by omega) (.inl rfl) (.inl rfl) (fun _ => .inl rfl) (fun _ => .inl rfl) hd he h
        subst h1
        exact ⟨rfl, List.append_cancel_left h2⟩
    · intro ds es c1 c2 r s hz k1 k2 hd he h
      cases ds with
      | nil =>
        cases es with
        | nil => exact ⟨rfl, h⟩
        | cons e es =>
          exfalso
          rcases k1 with rfl | rfl | rfl
          · injection h with h1 _
            exact absurd h1 (by decide)
          · injection h with h1 _
            exact absurd h1 (by decide)
          · injection h with _ h2
            injection h2 with h3 _
            exact absurd h3 (by decide)
      | cons d ds =>
        cases es with
        | nil =>
          exfalso
          rcases k2 with rfl | rfl | rfl
          · injection h with h1 _
            exact absurd h1 (by decide)
          · injection h with h1 _
            exact absurd h1 (by decide)
          · injection h with _ h2
            injection h2 with h3 _
            exact absurd h3 (by decide)
        | cons e es =>
          have h : cp d.shown ++ (tls c1 ds ++ r) = cp e.shown ++ (tls c2 es ++ s) := by
            rw [← List.append_assoc, ← List.append_assoc]
            injection h with _ h2
            injection h2
          have hs : sizeOf (d :: ds) = 1 + sizeOf d + sizeOf ds := rfl
          obtain ⟨h1, h2⟩ := hD d e _ _ (by omega) hd.1 he.1 (beh_tls k1 r ds) (beh_tls k2 s es) h
          obtain ⟨h3, h4⟩ := hL ds es c1 c2 r s (by omega) k1 k2 hd.2 he.2 h2
          exact ⟨by rw [h1, h3], h4⟩
/-- equal reprs, equal data -/
theorem shown_inj {d e : PyData} (hd : Pl d) (he : Pl e) (h : d.shown = e.shown) : d = e := by
  refine ((part_all (sizeOf d)).1 d e [] [] (Nat.le_refl _) hd he (fun _ _ z => nomatch z) (fun _ _ z => nomatch z) ?_).1
  rw [h]
/-! ## == of plain data -/
theorem eqv_n : ∀ n : Nat, (∀ d e : PyData, sizeOf d ≤ n → Pl d → Pl e → PyData.eqv d e = true → d = e) ∧ (∀ ds es : List PyData, sizeOf ds ≤ n → PlAll ds → PlAll es → PyData.eqvAll ds es = true → ds = es)
  | 0 => by
    constructor
    · intro d e hz
      exfalso
      cases d <;> (simp at hz)
    · intro ds es hz
      exfalso
      cases ds <;> (simp at hz)
  | n + 1 => by
    obtain ⟨hD, hL⟩ := eqv_n n
    constructor
    · intro d e hz hd he h
      cases d with
      | none => cases e <;> first | rfl | (simp [PyData.eqv] at h)
      | bool b => exact hd.elim
      | dict kvs => exact hd.elim
      | int i =>
        cases e <;> first | exact he.elim | (simp [PyData.eqv] at h; try (rw [h]))
      | str x =>
        cases e <;> first | exact he.elim | (simp [PyData.eqv] at h; try (rw [h]))
      | tuple x =>
        cases e with
        | tuple y =>
          have hs : sizeOf (PyData.tuple x) = 1 + sizeOf x := PyData.tuple.sizeOf_spec x
          rw [hL x y (by omega) hd he (by simpa [PyData.eqv] using h)]
        | dict kvs => exact he.elim
        | bool b => exact he.elim
        | _ => simp [PyData.eqv] at h
      | list x =>
        cases e with
        | list y =>
          have hs : sizeOf (PyData.list x) = 1 + sizeOf x := PyData.list.sizeOf_spec x
          rw [hL x y (by omega) hd he (by simpa [PyData.eqv] using h)]
        | dict kvs => exact he.elim
        | bool b => exact he.elim
        | _ => simp [PyData.eqv] at h
    · intro ds es hz hd he h
      cases ds with
      | nil => cases es with
        | nil => rfl
        | cons e es => simp [PyData.eqvAll] at h
      | cons d ds => cases es with
        | nil => simp [PyData.eqvAll] at h
        | cons e es =>
          have hs : sizeOf (d :: ds) = 1 + sizeOf d + sizeOf ds := rfl
          simp only [PyData.eqvAll, Bool.and_eq_true] at h
          rw [hD d e (by omega) hd.1 he.1 h.1, hL ds es (by omega) hd.2 he.2 h.2]
theorem eqv_plain {d e : PyData} (hd : Pl d) (he : Pl e) (h : PyData.eqv d e = true) : d = e := (eqv_n (sizeOf d)).1 d e (Nat.le_refl _) hd he h
theorem lay_n : ∀ n : Nat, (∀ d : PyData, sizeOf d ≤ n → Pl d → d.canLay0 = true) ∧ (∀ ds : List PyData, sizeOf ds ≤ n → PlAll ds → PyData.canLayAll0 ds = true)
  | 0 => by
    constructor
    · intro d hz
      exfalso
      cases d <;> (simp at hz)
    · intro ds hz
      exfalso
      cases ds <;> (simp at hz)
  | n + 1 => by
    obtain ⟨hD, hL⟩ := lay_n n
    constructor
    · intro d hz hd
      cases d with
      | none => rfl
      | bool b => rfl
      | dict kvs => exact hd.elim
      | int i => rfl
      | str x =>
        have : Asc x := fun c hc => aln_lt (hd c hc)
        exact this.ok
      | tuple x =>
        have hs : sizeOf (PyData.tuple x) = 1 + sizeOf x := PyData.tuple.sizeOf_spec x
        exact hL x (by omega) hd
      | list x =>
        have hs : sizeOf (PyData.list x) = 1 + sizeOf x := PyData.list.sizeOf_spec x
        exact hL x (by omega) hd
    · intro ds hz hd
      cases ds with
      | nil => rfl
      | cons d ds =>
        have hs : sizeOf (d :: ds) = 1 + sizeOf d + sizeOf ds := rfl
        show (d.canLay0 && PyData.canLayAll0 ds) = true
        rw [hD d (by omega) hd.1, hL ds (by omega) hd.2]
        rfl
theorem lay_plain {d : PyData} (hd : Pl d) : d.canLay0 = true := (lay_n (sizeOf d)).1 d (Nat.le_refl _) hd
theorem lay_plainAll {ds : List PyData} (hd : PlAll ds) : PyData.canLayAll0 ds = true := (lay_n (sizeOf ds)).2 ds (Nat.le_refl _) hd
theorem eqv_refl_plain {d : PyData} (hd : Pl d) : PyData.eqv d d = true := SeqAt.eqv_refl d (lay_plain hd)
/-- two reprs are equal exactly if the data are -/
theorem alike_plain {d e : PyData} (hd : Pl d) (he : Pl e) : decide (d.shown = e.shown) = PyData.eqv d e := by
  by_cases h : d = e
  · subst h
    rw [eqv_refl_plain hd]
    simp
  · have h1 : ¬ d.shown = e.shown := fun z => h (shown_inj hd he z)
    have h2 : PyData.eqv d e = false := by
      cases z : PyData.eqv d e with
      | false => rfl
      | true => exact absurd (eqv_plain hd he z) h
    rw [h2, decide_eq_false h1]
theorem show_n : ∀ n : Nat, (∀ d : PyData, sizeOf d ≤ n → Pl d → d.showable = true ∧ d.hasDict = false) ∧ (∀ ds : List PyData, sizeOf ds ≤ n → PlAll ds → PyData.showableAll ds = true ∧ PyData.hasDictAll ds = false)
  | 0 => by
    constructor
    · intro d hz
      exfalso
      cases d <;> (simp at hz)
    · intro ds hz
      exfalso
      cases ds <;> (simp at hz)
  | n + 1 => by
    obtain ⟨hD, hL⟩ := show_n n
    constructor
    · intro d hz hd
      cases d with
      | none => exact ⟨rfl, rfl⟩
      | bool b => exact ⟨rfl, rfl⟩
      | dict kvs => exact hd.elim
      | int i => exact ⟨decide_eq_true hd.2, rfl⟩
      | str x => exact ⟨rfl, rfl⟩
      | tuple x =>
        have hs : sizeOf (PyData.tuple x) = 1 + sizeOf x := PyData.tuple.sizeOf_spec x
        exact hL x (by omega) hd
      | list x =>
        have hs : sizeOf (PyData.list x) = 1 + sizeOf x := PyData.list.sizeOf_spec x
        exact hL x (by omega) hd
    · intro ds hz hd
      cases ds with
      | nil => exact ⟨rfl, rfl⟩
      | cons d ds =>
        have hs : sizeOf (d :: ds) = 1 + sizeOf d + sizeOf ds := rfl
        obtain ⟨a1, a2⟩ := hD d (by omega) hd.1
        obtain ⟨b1, b2⟩ := hL ds (by omega) hd.2
        constructor
        · show (d.showable && PyData.showableAll ds) = true
          rw [a1, b1]
          rfl
        · show (d.hasDict || PyData.hasDictAll ds) = false
          rw [a2, b2]
          rfl
theorem show_plain {d : PyData} (hd : Pl d) : d.showable = true ∧ d.hasDict = false := (show_n (sizeOf d)).1 d (Nat.le_refl _) hd
/-! ## how long a repr is at most -/
mutual
def wt : PyData → Nat
  | .none => 4
  | .bool _ => 5
  | .int _ => 1921
  | .str z => z.length + 2
  | .tuple ds => wtAll ds + 3
  | .list ds => wtAll ds + 3
  | .dict _ => 0
def wtAll : List PyData → Nat
  | [] => 0
  | d :: ds => wt d + 2 + wtAll ds
end
theorem wtAll_cons (d : PyData) (ds : List PyData) : wtAll (d :: ds) = wt d + 2 + wtAll ds := by rw [wtAll]
theorem wt_tup (ds : List PyData) : wt (.tuple ds) = wtAll ds + 3 := by rw [wt]
theorem wt_lst (ds : List PyData) : wt (.list ds) = wtAll ds + 3 := by rw [wt]
theorem wt_n : ∀ n : Nat, (∀ d : PyData, sizeOf d ≤ n → Pl d → (cp d.shown).length ≤ wt d) ∧ (∀ (ds : List PyData) (cl : List Nat), sizeOf ds ≤ n → PlAll ds → (its cl ds).length ≤ wtAll ds + cl.length)
  | 0 => by
    constructor
    · intro d hz
      exfalso
      cases d <;> (simp at hz)
    · intro ds cl hz
      exfalso
      cases ds <;> (simp at hz)
  | n + 1 => by
    obtain ⟨hD, hL⟩ := wt_n n
    constructor
    · intro d hz hd
      cases d with
      | none =>
        rw [cp_none, wt]
        decide
      | bool b => exact hd.elim
      | dict kvs => exact hd.elim
      | int i =>
        rw [wt]
        show (Str.ofString (toString i)).cps.toList.length ≤ 1921
        have e := int_text_length_le (a := i) (k := 1920) (by decide) hd.2
        rw [← PySem.ofString_length] at e
        rw [Array.length_toList]
        exact e
      | str x =>
        rw [PyData.shown_str, repr_aln hd, wt]
        have : (cp x).length = x.length := Array.length_toList
        simp only [List.length_cons, List.length_append, List.length_nil]
        omega
      | tuple x =>
        have hs : sizeOf (PyData.tuple x) = 1 + sizeOf x := PyData.tuple.sizeOf_spec x
        rw [cp_tup, wt_tup, List.length_cons]
        have h := hL x (tcl x) (by omega) hd
        have h2 : (tcl x).length ≤ 2 := by
          unfold tcl
          split <;> decide
        omega
      | list x =>
        have hs : sizeOf (PyData.list x) = 1 + sizeOf x := PyData.list.sizeOf_spec x
        rw [cp_list, wt_lst, List.length_cons]
        have h := hL x [93] (by omega) hd
        have h2 : ([93] : List Nat).length = 1 := rfl
        omega
    · intro ds cl hz hd
      cases ds with
      | nil =>
        show cl.length ≤ wtAll [] + cl.length
        omega
      | cons d ds =>
        have hs : sizeOf (d :: ds) = 1 + sizeOf d + sizeOf ds := rfl
        have h1 := hD d (by omega) hd.1
        rw [wtAll_cons]
        cases ds with
        | nil =>
          show (cp d.shown ++ cl).length ≤ _
          rw [List.length_append]
          omega
        | cons e ds =>
          have h2 := hL (e :: ds) cl (by omega) hd.2
          show (cp d.shown ++ ([44, 32] ++ its cl (e :: ds))).length ≤ _
          rw [List.length_append, List.length_append]
          have h3 : ([44, 32] : List Nat).length = 2 := rfl
          omega
theorem shown_len {d : PyData} (hd : Pl d) : d.shown.length ≤ wt d := by
  have := (wt_n (sizeOf d)).1 d (Nat.le_refl _) hd
  rw [Array.length_toList] at this
  exact this
/-- a repr of plain data is a plain text -/
theorem shown_asc_n : ∀ n : Nat, (∀ d : PyData, sizeOf d ≤ n → Pl d → ∀ c ∈ cp d.shown, c < 128) ∧ (∀ (ds : List PyData) (cl : List Nat), sizeOf ds ≤ n → PlAll ds → (∀ c ∈ cl, c < 128) → ∀ c ∈ its cl ds, c < 128)
  | 0 => by
    constructor
    · intro d hz
      exfalso
      cases d <;> (simp at hz)
    · intro ds cl hz
      exfalso
      cases ds <;> (simp at hz)
  | n + 1 => by
    obtain ⟨hD, hL⟩ := shown_asc_n n
    constructor
    · intro d hz hd
      cases d with
      | none =>
        rw [cp_none]
        decide
      | bool b => exact hd.elim
      | dict kvs => exact hd.elim
      | int i => exact Asc.num i
      | str x =>
        rw [PyData.shown_str, repr_aln hd]
        intro c hc
        rcases List.mem_cons.mp hc with rfl | hc
        · decide
        · rcases List.mem_append.mp hc with hc | hc
          · exact aln_lt (hd c hc)
          · rw [List.mem_singleton.mp hc]
            decide
      | tuple x =>
        have hs : sizeOf (PyData.tuple x) = 1 + sizeOf x := PyData.tuple.sizeOf_spec x
        rw [cp_tup]
        intro c hc
        rcases List.mem_cons.mp hc with rfl | hc
        · decide
        · refine hL x (tcl x) (by omega) hd ?_ c hc
          unfold tcl
          split <;> decide
      | list x =>
        have hs : sizeOf (PyData.list x) = 1 + sizeOf x := PyData.list.sizeOf_spec x
        rw [cp_list]
        intro c hc
        rcases List.mem_cons.mp hc with rfl | hc
        · decide
        · exact hL x [93] (by omega) hd (by decide) c hc
    · intro ds cl hz hd hcl
      cases ds with
      | nil => exact hcl
      | cons d ds =>
        have hs : sizeOf (d :: ds) = 1 + sizeOf d + sizeOf ds := rfl
        have h1 := hD d (by omega) hd.1
        cases ds with
        | nil =>
          intro c hc
          rcases List.mem_append.mp (show c ∈ cp d.shown ++ cl from hc) with hc | hc
          · exact h1 c hc
          · exact hcl c hc
        | cons e ds =>
          have h2 := hL (e :: ds) cl (by omega) hd.2 hcl
          intro c hc
          rcases List.mem_append.mp (show c ∈ cp d.shown ++ ([44, 32] ++ its cl (e :: ds)) from hc) with hc | hc
          · exact h1 c hc
          · rcases List.mem_append.mp hc with hc | hc
            · have h3 : ∀ c ∈ ([44, 32] : List Nat), c < 128 := by decide
              exact h3 c hc
            · exact h2 c hc
theorem shown_asc {d : PyData} (hd : Pl d) : Asc d.shown := (shown_asc_n (sizeOf d)).1 d (Nat.le_refl _) hd
end Mo
set_option Elab.async false
set_option linter.all false
set_option maxRecDepth 100000
set_option maxHeartbeats 4000000
namespace Mo
open PySem PySem.Spec PyProof.Rows L2
/-! ## tuples whose object is known: their methods may be called -/
/-- a tuple at p, its object without a dict -/
def TX (H : Hp) (p : Addr) (xs : List V) : Prop := ∃ ob : Obj, ob.dict = none ∧ H p = some (.frz ob (.tup xs))
theorem TX.same {H H' : Hp} {p : Addr} {xs : List V} (h : TX H p xs) (e : Same H H') : TX H' p xs := let ⟨ob, d, h⟩ := h; ⟨ob, d, e _ _ h⟩
theorem TX.sq {K : PySem.W.Frag} {H : Hp} {p : Addr} {xs : List V} (h : TX H p xs) : SqT K H p xs := let ⟨ob, _, h⟩ := h; .inl (.inr ⟨ob, h⟩)
theorem TX.ty {K : PySem.W.Frag} {H : Hp} {p : Addr} {xs : List V} (h : TX H p xs) : TyX K H (.ref p) (.type Ty7.tup.nm) := let ⟨_, _, h⟩ := h; .fTuple h
theorem TX.at {H : Hp} {p : Addr} {xs : List V} (h : TX H p xs) : ∃ o, H p = some o := let ⟨_, _, h⟩ := h; ⟨_, h⟩
theorem TX.keep {H H' : Hp} {a p : Addr} {xs : List V} (h : TX H p xs) (n : p ≠ a) (e : KeepBut a H H') : TX H' p xs := let ⟨ob, d, h⟩ := h; ⟨ob, d, e _ _ n h⟩
section
variable {X : Cx}
theorem laidX {pins : List (Addr × Obj)} {σ : L2.St} {H : Hp} {s : Shared} {xs : List V} {its : List Value} {t' : Nat} (I : Inv X pins σ H s) (hz : xs.length ≤ sizeLine) (r : Vals xs its) :
    Inv X pins σ (upd H s.heap.objs.size (.frz { cls := .type "tuple", data := .seq its.toArray } (.tup xs))) { s with heap := s.heap.push { cls := .type "tuple", data := .seq its.toArray }, toks := t' } :=
  I.laid (t' := t') (fun b ob q => Heap.get?_push_of_some _ q) (Nat.le_refl _) ⟨Heap.get?_push_size _ rfl, hz, its, r, IsTup.new _ _⟩
/-- what is asked of a new tuple -/
abbrev newX (H : Hp) (xs : List V) (Q : VK) : Prop := ∀ (p : Addr) (ob : Obj), ob.dict = none → H p = none → Q (.ref p) (upd H p (.frz ob (.tup xs)))
def tTupX (t : TA) : TE := fun σ H Q => t σ H fun xs H1 => xs.length ≤ sizeLine ∧ newX H1 xs Q
theorem pe_tupX {es : List Expr} {t : TA} {x1} {pos : Pos} (h : PA X es t) : PE X (.Tuple es x1 pos) (tTupX t) := by
  refine ⟨fun pins s σ H Q I hq => ?_⟩
  refine wpAny_Tuple_spliced (thn (h.run pos pins s σ H _ I hq) fun us s1 ⟨xs, H1, I1, r, z, q⟩ => ⟨by rw [← r.length]; exact z, ?_⟩)
  exact ⟨.ref s1.heap.objs.size, _, laidX (t' := s1.toks) I1 z r, rfl, q _ _ rfl (I1.hok.fresh (Nat.le_refl _))⟩
theorem call_tuple_ofX : CallR X (.type "tuple") (fun xs H Q => ∃ p ys, xs = [.ref p] ∧ SqL X.K H p ys ∧ newX H ys Q) := by
  intro pins s σ H xs us Q I r h
  obtain ⟨p, ys, rfl, hq, q⟩ := h
  obtain ⟨u, rfl, rx⟩ := vals1 r
  cases rx
  obtain ⟨its, r', pl, hz⟩ := I.list hq
  have hlen := r'.length
  refine call_tuple_list pl.isList (fun h' kp => ?_) (by simp only [List.size_toArray] <;> omega)
  have I1 : Inv X pins σ H { s with heap := h' } := I.kept (t' := s.toks) kp
  exact ⟨.ref h'.objs.size, _, laidX (t' := s.toks) I1 hz r', rfl, q _ _ rfl (I1.hok.fresh (Nat.le_refl _))⟩
def rCatX (K : PySem.W.Frag) : R2 := fun x y H Q => ∃ a b xs ys, x = .ref a ∧ y = .ref b ∧ SqT K H a xs ∧ SqT K H b ys ∧ xs.length + ys.length ≤ sizeLine ∧
  (xs = [] → Q (.ref b) H) ∧ (ys = [] → Q (.ref a) H) ∧ newX H (xs ++ ys) Q
theorem op_catX : OpR X (binaryOp .Add) (rCatX X.K) := by
  intro pins s σ H x y v u Q I rx ry h
  obtain ⟨a, b, xs, ys, rfl, rfl, ha, hb, hz, q0, q1, q2⟩ := h
  cases rx
  cases ry
  obtain ⟨its, r1, p1, _⟩ := I.tuple ha
  obtain ⟨its2, r2, p2, _⟩ := I.tuple hb
  by_cases hx : xs = []
  · subst hx
    cases r1
    exact cat_tup0 p1 p2 ⟨.ref b, H, I, rfl, q0 rfl⟩
  · refine HT.cat_tup p1 p2 (fun z => hx (r1.nil_iff.mp z)) (fun z => ⟨.ref a, H, I, rfl, q1 (r2.nil_iff.mp z)⟩) (fun z => ?_) (by rw [← r1.length, ← r2.length]; exact hz)
    exact ⟨.ref s.heap.objs.size, _, laidX (t' := s.toks) I (by rw [List.length_append]; exact hz) (r1.append r2), rfl, q2 _ _ rfl (I.hok.fresh (Nat.le_refl _))⟩
def rSlX1 (K : PySem.W.Frag) : V → Option Int → Option Int → Hp → VK → Prop := fun x lo hi H Q => ∃ a xs, x = .ref a ∧ SqT K H a xs ∧
  (cutV xs lo hi = xs → Q (.ref a) H) ∧ newX H (cutV xs lo hi) Q
theorem cut_whole {xs : List V} {lo hi : Option Int} (h : HT.sIx xs.length 0 lo = 0 ∧ HT.sIx xs.length xs.length hi = xs.length) : cutV xs lo hi = xs := by
  unfold cutV
  rw [h.1, h.2]
  simp
theorem sl_tupX : SlR X (rSlX1 X.K) := by
  intro pins s σ H x v vl vu lo hi sl Q I rx hs pl pu h
  obtain ⟨a, xs, rfl, hx, q1, q2⟩ := h
  cases rx
  obtain ⟨its, r, ht, hz⟩ := I.tuple hx
  have hlen : its.toArray.size = xs.length := by rw [List.size_toArray]; exact r.length.symm
  refine ⟨"tuple", _, PyProof.Rows.slot_tuple_getitem.lookup, ht.typeIs, ?_⟩
  by_cases hw : HT.sIx xs.length 0 lo = 0 ∧ HT.sIx xs.length xs.length hi = xs.length
  · exact getItem_tuple_whole ht hs pl pu (by rw [hlen]; exact hw) ⟨.ref a, H, I, rfl, q1 (cut_whole hw)⟩
  · refine HT.getItem_tuple_cut ht hs pl pu (by rw [hlen]; exact hw) ?_ (by rw [hlen]; exact hz)
    rw [hlen]
    exact ⟨.ref s.heap.objs.size, _, laidX (t' := s.toks) I (Nat.le_trans (cutV_length xs lo hi) hz) ((r.drop (HT.sIx xs.length 0 lo)).take (HT.sIx xs.length xs.length hi - HT.sIx xs.length 0 lo)), rfl, q2 _ _ rfl (I.hok.fresh (Nat.le_refl _))⟩
/-- t.m(..) of such a tuple -/
def tBX (r : V → List V → Hp → VK → Prop) (to : TE) (t : TA) : TE := fun σ H Q => to σ H fun x H1 => (∃ p ys, x = .ref p ∧ TX H1 p ys) ∧ t σ H1 fun xs H2 => r x xs H2 Q
theorem pe_bmX {o e : Expr} {es : List Expr} {to : TE} {t : TA} {name : Str} {apos cpos : Pos} {id : String} {r : V → List V → Hp → VK → Prop} (slot : Slot "tuple" name id) (hty : typeOf (.builtin id) = pure (.type "method_descriptor")) (hm : MtR X id r) (ho : PE X o to) (ha : PA X (e :: es) t)
    (hbase : attributeBase o name X.env (eval o X.env) = eval o X.env := by rfl)
    (hfew : ((backTo cpos (starEach (e :: es) X.env)).all (fun x => !x.1) && (backToKw cpos (keywordEach [] X.env)).all (fun x => x.1.isSome)
      && decide ((e :: es).length + ([] : List Keyword).length + (if ([] : List Keyword).isEmpty then 0 else 1) < 30)) = true := by rfl)
    (hline : (apos.endLine == cpos.line) = true := by rfl) (hs : starEach (e :: es) X.env = (false, eval e X.env) :: starEach es X.env := by rfl) (hplain : (backTo cpos (starEach es X.env)).any (·.1) = false := by rfl) :
    PE X (.Call (.Attribute o name apos) (e :: es) [] cpos) (tBX r to t) := by
  refine ⟨fun pins s σ H Q I h => ?_⟩
  refine wpAny_Call_method_late hbase hfew hline rfl (thn (ho.run pins s σ H _ I h) fun v s1 ⟨x, H1, I1, r1, ty, q1⟩ => ?_)
  obtain ⟨p, ys, rfl, ob, hd, hp⟩ := ty
  obtain ⟨g1, _, _, _, o2, g2, hc, _⟩ := (show ObjOk X.prog X.w H1 s1.heap p (.frz ob (.tup ys)) from I1.hok p _ hp)
  cases (show v = Value.ref p from r1)
  have e2 : o2 = ob := by
    rw [g1] at g2
    exact (Option.some.inj g2).symm
  subst e2
  refine ⟨"tuple", id, PySem.F.plainAttrs_tuple, slot, hty, ⟨_, g1, hc⟩, fun a e => by cases e; exact ⟨_, g1, hd⟩, ?_⟩
  have hA := ha.run cpos pins s1 σ H1 _ I1 q1
  rw [hs] at hA ⊢
  refine Calls.callWith_builtin (by show (false || (backTo cpos (starEach es X.env)).any (·.1)) = false; rw [hplain] <;> rfl) (Calls.evalArgs_plain ?_)
  exact thn hA fun us s2 ⟨vs, H2, I2, r2, q2⟩ => hm pins s2 σ H2 (.ref p) vs (.ref p) us Q I2 r1 r2 q2
end
end Mo
set_option Elab.async false
set_option linter.all false
set_option maxRecDepth 100000
set_option maxHeartbeats 4000000
/-! super().__init__(..) in an ordinary class -/
namespace Mo
open PySem PySem.Spec PyProof.Rows L2
structure SScope (N P : List Str) (sc : Scope) : Prop where
  kind : sc.kind = .function
  co : sc.isCoroutine = false
  gen : sc.isGenerator = false
  nd : N.Nodup
  pre : N.take P.length = P
  par : ∀ x ∈ P, sc.names.lookup x = some .local
  nocell : ∀ y ∈ sc.names, y.2 ≠ .cell
  free : ∀ y ∈ sc.names, y.2 = .free → y.1 = "__class__"
  sup : sc.names.lookup ("super" : Str) = some .globalImplicit
  cls : sc.names.lookup ("__class__" : Str) = some .free
/-- the context of such a def's body -/
def cxS (CX : CXT) (P : Program) (w : World) (K : PySem.W.Frag) (mg : Str → Option Value) (base : Heap) (N : List Str) (qual : Str) (scope : Scope) (f : Addr) (cd : Value) (cc : Addr) (A : Around) (outer : List Env) (s : Shared) (H : Hp) (E : XK) : Cx where
  prog := P
  w := w
  K := K
  mg := mg
  base := base
  A := A.deeper (PySem.W.ksEnv qual scope s.heap.objs.size f cd cc)
  N := N
  s_0 := s
  H_0 := H
  env := PySem.W.ksEnv qual scope s.heap.objs.size f cd cc
  outer := outer
  stack := PySem.W.ksEnv qual scope s.heap.objs.size f cd cc :: outer
  ex := []
  calm := true
  fn := fun _ => false
  pn := []
  xe := fun e s' => wpAny (model P w) (A.deeper (PySem.W.ksEnv qual scope s.heap.objs.size f cd cc)) (leaving (PySem.W.ksEnv qual scope s.heap.objs.size f cd cc) e) (fun _ s'' => CX outer H s E e s'') (fun e' s'' => CX outer H s E e' s'') s'
theorem lookup_rev_zip : ∀ {ps : List Str} {us : List Value} {i : Nat} {y : Str} {u : Value}, ps.Nodup → ps[i]? = some y → us[i]? = some u → (ps.zip us).reverse.lookup y = some u := by
  intro ps
  induction ps with
  | nil =>
    intro us i y u _ h _
    simp at h
  | cons p ps ih =>
    intro us i y u nd h1 h2
    cases us with
    | nil => simp at h2
    | cons v us =>
      have ndp := List.nodup_cons.mp nd
      rw [List.zip_cons_cons, List.reverse_cons, List.lookup_append]
      cases i with
      | zero =>
        simp at h1 h2
        subst h1 h2
        have e : (ps.zip us).reverse.lookup p = none := by
          rw [List.lookup_eq_none_iff]
          intro q hq
          have hq := List.mem_reverse.mp hq
          have hm := (List.of_mem_zip (show (q.1, q.2) ∈ ps.zip us from hq)).1
          have hne : p ≠ q.1 := by
            intro z
            rw [z] at ndp
            exact ndp.1 hm
          simp [hne]
        rw [e]
        simp
      | succ i =>
        rw [ih ndp.2 (by simpa using h1) (by simpa using h2)]
        rfl
theorem inv_startS {CX : CXT} {P : Program} {w : World} {K : PySem.W.Frag} {mg : Str → Option Value} {base : Heap} {N ps : List Str} {qual : Str} {scope : Scope} {f cc : Addr} {cd : Value} {A : Around} {outer : List Env} {s : Shared} {h₀ : Heap} {tk : Nat} {H : Hp} {E : XK} {us : List Value} {vs : List V}
    {oC : Obj} {cv : Option Value} (S : SScope N ps scope) (hd : A.handled = none) (e0 : Env0 P w K mg base A outer s H) (hl : vs.length = ps.length) (r : Vals vs us) (hcc : K.lookup cc = some oC) (hcv : oC.data = .cell cv)
    (hns : h₀.Ns s.heap.objs.size (fun x => (ps.zip us).reverse.lookup x)) (hk : ∀ b o, s.heap.get? b = some o → h₀.get? b = some o) :
    Inv (cxS CX P w K mg base N qual scope f cd cc A outer s H E) [] (start N vs) H { s with heap := h₀, toks := tk } := by
  have hpl : ps.length ≤ N.length := by have := congrArg List.length S.pre; rw [List.length_take] at this; omega
  have noA : ∀ b : Addr, b ∉ (cxS CX P w K mg base N qual scope f cd cc A outer s H E).ex := fun b z => absurd (show b ∈ ([] : List Addr) from z) (by simp)
  have hb := e0.mod.kin cc oC hcc
  have one : ∀ x c, [(("__class__" : Str), cc)].lookup x = some c → x = "__class__" ∧ c = cc := by
    intro x c h
    simp only [List.lookup_cons, List.lookup_nil] at h
    split at h
    · rename_i e
      cases h
      exact ⟨by simpa using e, rfl⟩
    · cases h
  refine ⟨⟨e0.mod, S.kind, rfl, rfl, Nat.le_refl _, fun y z c h1 h2 => ?_, fun y hy => ?_, (fun y c h => absurd (show false = true from h) Bool.false_ne_true), fun _ => hd, Around.frames_deeper e0.frames, .inr ⟨rfl, rfl⟩, fun b z => absurd z (noA b), e0.bs, e0.bsz, fun b _ _ => noA b, fun b z => absurd z (noA b), e0.funs, e0.frf⟩,
    rfl, e0.bare, Un.kept hk, ⟨_, hns, fun i y v h1 h2 h3 => ?_⟩, fun y c h => ?_, e0.hok.fresh (Nat.le_refl _), fun y c h => ?_, fun p hp => absurd (show p ∈ ([] : List (Addr × Obj)) from hp) (by simp), e0.hok.kept hk, ?_⟩
  · rw [(one y c h1).1, (one z c h2).1]
  · have hy : scope.names.lookup y = some .cell ∨ scope.names.lookup y = some .free := hy
    rcases hy with hy | hy
    · exact absurd rfl (S.nocell _ (PySem.mem_of_lookup hy))
    · have e := S.free _ (PySem.mem_of_lookup hy) rfl
      simp only at e
      subst e
      exact ⟨cc, rfl⟩
  · have hi : i < vs.length := by
      unfold L2.start at h2
      by_cases hi : i < vs.length
      · exact hi
      · rw [List.getElem?_append_right (by simpa using hi)] at h2
        rw [List.getElem?_replicate] at h2
        split at h2 <;> cases h2
    have ha : vs[i]? = some v := by
      unfold L2.start at h2
      rw [List.getElem?_append_left (by simpa using hi), List.getElem?_map] at h2
      cases e : vs[i]? with
      | none => rw [e] at h2; cases h2
      | some a => rw [e] at h2; cases h2; rfl
    obtain ⟨u, hu, rv⟩ := r.get ha
    have hp : ps[i]? = some y := by
      rw [← S.pre, List.getElem?_take_of_lt (by omega)]; exact h1
    have ndP : ps.Nodup := by rw [← S.pre]; exact S.nd.sublist (List.take_sublist _ _)
    exact ⟨u, rv, .inl ⟨S.par y (List.mem_of_getElem? hp), lookup_rev_zip ndP hp hu⟩⟩
  · obtain ⟨rfl, rfl⟩ := one y c h
    exact ⟨cv, oC, hk _ _ (e0.bs _ _ hb).1, hcv⟩
  · obtain ⟨rfl, rfl⟩ := one y c h
    exact (e0.bs _ _ hb).2
  · unfold L2.start
    show _ = N.length
    rw [List.length_append, List.length_map, List.length_replicate]
    omega
/-- statements of a def's body, run at the def's own place -/
def PSA (X : Cx) (b : List Stmt) (st : List Stmt) (t : TS) : Prop :=
  ∀ (pins : List (Addr × Obj)) (s : Shared) (σ : L2.St) (H : Hp) (D : Ends), Inv X pins σ H s → t D σ H → PySem.wpAt (model X.prog X.w) X.A (.func b X.env) (execs st X.env) (SP X pins D) X.xe s
section
variable {X : Cx} {b : List Stmt} {st : Stmt} {rest : List Stmt} {t u : TS}
theorem psa_any {l : List Stmt} (h : PSs X l t) : PSA X b l t := fun pins s σ H D I q => PySem.wpAt_of_wpAny (h.run pins s σ H D I q)
theorem psa_cons (h1 : PS X st t) (h2 : PSA X b rest u) : PSA X b (st :: rest) (tSeq t u) := by
  intro pins s σ H D I h
  refine PySem.ks_wpAt_execs_cons (PySem.wpAt_of_wpAny (thn (h1.run pins s σ H { D with nx := u D } I h) fun f s1 q => ?_))
  cases f with
  | next =>
    obtain ⟨σ', H', I', q⟩ := q
    exact h2 pins s1 σ' H' D I' q
  | ret v => exact q
  | brk => exact q
  | cont => exact q
/-- super().__init__(..): the next __init__ behind D -/
def sSuper (K : PySem.W.Frag) (D f2 : Addr) (sp : Sp) (E : XK) (t : TA) (u : TS) : TS := fun Dn σ H => ∃ (a C dx : Addr) (fs : List (Str × V)), σ[0]? = some (some (.ref a)) ∧ H a = some (.ins C dx fs) ∧ PySem.W.mroIn K C (.ref D) = some true ∧
  PySem.W.ks_superIn K C D "__init__" = some (some (.ref f2)) ∧ ∀ q, H q = none → t σ (upd H q (.met f2 a)) fun vs H1 => H1 q = some (.met f2 a) ∧ sp (.ref a :: vs) H1 (fun _ H2 => u Dn σ H2) E
theorem psa_super {p0 p1 apos pos pos2 : Pos} {e : Expr} {es : List Expr} {t : TA} {CX : CXT} {k : Nat} {f f2 cc cda D : Addr} {sp : Sp} {E : XK} {oc : Value} {od : Option Addr} {fd : FuncData} {osl : Array (Option Value)} {ar : Arg} {o2 oC : Obj} {vs : Array Value} {file : Str} {tf : Tok} {cdD : ClassData} {pl : Sem Bool}
    (F : FnR X.prog X.w X.K X.mg X.base CX k f2 sp) (hr : Room k X.A) (hx : Passes CX X E) (ha : PA X (e :: es) t) (h2 : PSA X b rest u)
    (hfu : X.env.func = some f) (hco : X.env.code = .ref cda) (hcl : X.env.cells.lookup ("__class__" : Str) = some cc) (hks : X.env.scope.names.lookup ("super" : Str) = some .globalImplicit) (hkc : X.env.scope.names.lookup ("__class__" : Str) = some .free)
    (hf : X.K.lookup f = some ⟨oc, od, .func fd, osl⟩) (hp : (fd.params.posonlyargs ++ fd.params.args).head? = some ar) (hN : X.N[0]? = some ar.arg) (hka : X.env.scope.names.lookup ar.arg = some .local)
    (hcode : X.K.lookup cda = some o2) (hoc : o2.data = .fields vs) (hvs : vs[2]? = some (.str file tf)) (hfile : ((X.prog.main.file : Str) == file) = true) (htop : (X.prog.main.scope.names.lookup ("super" : Str)).isSome = false)
    (hcell : X.K.lookup cc = some oC) (hcv : oC.data = .cell (some (.ref D))) (hD : PySem.W.clsIn X.K D = some cdD) (hsm : X.mg "super" = none) (hop : PySem.W.nsIn X.K cStatics "thirdparty.any" = some none)
    (hf2 : PySem.W.fnIn X.K f2 = true) (hft : PySem.W.typeIn X.K (.ref f2) = some (.type "function"))
    (hi : interactive X.env = false := by rfl) (hs : swapsWith (.Call (.Attribute (.Call (.Name "super" p0) [] [] p1) "__init__" apos) (e :: es) [] pos) none pos2.line X.env = pure false := by rfl)
    (he : eval (.Call (.Attribute (.Call (.Name "super" p0) [] [] p1) "__init__" apos) (e :: es) [] pos) X.env = (do
      let ov ← attributeBase (.Call (.Name "super" p0) [] [] p1) "__init__" X.env (eval (.Call (.Name "super" p0) [] [] p1) X.env)
      standAt apos.atName
      let (f, first) ← holding [ov] (getMethod ov "__init__" pl)
      callWith pos f first (backTo pos (starEach (e :: es) X.env)) []) := by rfl)
    (hst : starEach (e :: es) X.env = (false, eval e X.env) :: starEach es X.env := by rfl) (hpl : (backTo pos (starEach es X.env)).any (·.1) = false := by rfl) :
    PSA X b (.Expr (.Call (.Attribute (.Call (.Name "super" p0) [] [] p1) "__init__" apos) (e :: es) [] pos) pos2 :: rest) (sSuper X.K D f2 sp E t u) := by
  intro pins s σ H Dn I h
  obtain ⟨a, C, dx, fs, hσ, hA, hsub, hsup, h⟩ := h
  obtain ⟨m, ns, loc⟩ := I.loc
  obtain ⟨w0, rw0, lk⟩ := loc 0 ar.arg (.ref a) hN hσ (.inl hka)
  cases (show w0 = Value.ref a from rw0)
  have hv : m ar.arg = some (.ref a) := by
    rcases lk with ⟨_, q⟩ | ⟨q, _⟩
    · exact q
    · exfalso
      have hka : X.env.kindOf ar.arg = some .local := hka
      rw [hka] at q
      rcases q with q | q <;> cases q
  obtain ⟨mA, O, _⟩ := ins_get I.hok hA
  obtain ⟨od', J, _⟩ := O.look
  have KX : X.K.In s.heap := I.kIn
  refine PySem.ks_wpAt_execs_cons (PySem.ks_wpAt_Expr_any (PySem.ks_wpAt_MethodCall (pl := pl) ?_ he) hi hs)
  refine PySem.ks_wpAt_super_base (env := X.env) hks hkc (by decide) hfu (KX _ _ hf) rfl hp hco (KX _ _ hcode) hoc hvs hfile htop ?_
  obtain ⟨mb, g1, g2⟩ := I.mod.blt
  refine PySem.W.ks_loadName_global I.ok.kind hks (Calls.loadGlobal_builtin (by rw [I.ok.glob]; exact I.mod.glob.keeps I.bk) hsm (by rw [I.ok.blt]; exact g1.keeps I.bk) ((g2 "super" (by decide)).trans (show bootBuiltins "super" = some (.type "super") by decide +kernel)) ⟨rfl, ?_⟩)
  refine wpAny_loadName_free I.ok.kind hkc hcl ⟨_, KX _ _ hcell, hcv⟩ ?_
  refine wpAny_loadName_local I.ok.kind hka ns hv ?_
  obtain ⟨oD, hD1, hD2⟩ : ∃ oD, s.heap.get? D = some oD ∧ oD.data = .cls cdD := by
    unfold PySem.W.clsIn at hD
    split at hD
    · rename_i c d cd' sl ho
      cases hD
      exact ⟨_, KX _ _ ho, rfl⟩
    · cases hD
  obtain ⟨hh, gg, dd, tk, os⟩ := s
  refine PySem.ks_wpAny_isType_cls hD1 hD2 ⟨rfl, ?_⟩
  refine PySem.ks_wpAny_call_super hD1 hD2 J.at_ J.cls (fun c e => ?_) (PySem.W.looks_mroIn KX hsub) (fun h' e1 k1 => ?_)
  · have := J.no
    unfold PySem.W.notCls at this
    rw [e] at this
    exact Bool.noConfusion this
  have I1 : Inv X pins σ H ⟨h', gg, dd, tk, os⟩ := I.kept (t' := tk) k1
  have KX1 : X.K.In h' := I1.kIn
  obtain ⟨mA1, O1, _⟩ := ins_get I1.hok hA
  obtain ⟨od1, J1, _⟩ := O1.look
  cases hc : PySem.W.clsIn X.K C with
  | none =>
    unfold PySem.W.ks_superIn at hsup
    rw [hc] at hsup
    cases hsup
  | some cd =>
    unfold PySem.W.ks_superIn at hsup
    rw [hc] at hsup
    obtain ⟨of, hof, hofc⟩ : ∃ of, h'.get? f2 = some of ∧ of.cls = .type "function" := by
      have ht' : (X.K.lookup f2).map (·.cls) = some (.type "function") := hft
      cases z : X.K.lookup f2 with
      | none => rw [z] at ht'; cases ht'
      | some of => rw [z] at ht'; exact ⟨of, KX1 _ _ z, Option.some.inj ht'⟩
    refine PySem.ks_wpAny_getMethod_super e1 (PySem.W.looks_opaque KX1 hop) (l₀ := cd.mro) ?_ rfl KX1 hsup hof hofc (PySem.W.ks_ne KX1 J1 hc) (by decide) ?_
    · exact fun A Q E s k q => wpAny_bind ((PySem.W.looks_clsIn KX1 hc) A _ E s k (wpAny_pure q))
    have hq0 : H h'.objs.size = none := I1.hok.fresh (Nat.le_refl _)
    have I2 : Inv X pins σ (upd H h'.objs.size (.met f2 a)) ⟨h'.push (PySem.W.methodObj (.ref f2) (.ref a)), gg, dd, tk + 1, os⟩ :=
      I1.laid (t' := tk + 1) (a := h'.objs.size) (o := .met f2 a) (fun b u z => Heap.get?_push_of_some _ z) (Nat.le_refl _) (show (h'.push (PySem.W.methodObj (.ref f2) (.ref a))).get? h'.objs.size = some (PySem.W.methodObj (.ref f2) (.ref a)) from Heap.get?_push_size h' rfl)
    have hA2 := ha.run pos pins _ σ _ _ I2 (h h'.objs.size hq0)
    show wpAny (model X.prog X.w) X.A (callWith pos (.ref h'.objs.size) [] (backTo pos (starEach (e :: es) X.env)) []) _ _ _
    rw [hst] at hA2 ⊢
    refine callwith_met (X := X) (g := f2) (a := a) (by show ((false || (backTo pos (starEach es X.env)).any (·.1)) || false) = false; rw [hpl]; rfl) hf2 (Calls.evalArgs_plain ?_)
    refine thn hA2 fun us s3 ⟨vs3, H3, I3, r3, hm3, q3⟩ => ⟨met_P I3 hm3, ?_⟩
    refine wpAny_call (PySem.W.method_call (met_P I3 hm3).1 (codeAny_mono (run_fnR (us := .ref a :: us) (vs := .ref a :: vs3) F hr hx I3 (.cons rfl r3) q3) fun r s' hr' => ?_))
    match r, hr' with
    | .error e, hr' => exact hr'
    | .ok (.ret v), hr' =>
      obtain ⟨v', H', I', rv, q⟩ := hr'
      exact h2 pins s' σ H' Dn I' q
    | .ok .next, hr' => exact hr'.elim
    | .ok .brk, hr' => exact hr'.elim
    | .ok .cont, hr' => exact hr'.elim
end
/-- THE RULE: a def that says super(), by its body -/
theorem fnS_of {CX : CXT} {P : Program} {w : World} {K : PySem.W.Frag} {mg : Str → Option Value} {base : Heap} {k : Nat} {f cc : Addr} {name qual : Str} {params : Arguments} {body : List Stmt} {scope : Scope}
    {dV kV doc pm cdv ct oc : Value} {an od : Option Addr} {osl : Array (Option Value)} {N ps : List Str} {sp : Sp} {oC : Obj} {cv : Option Value}
    (lk : K.lookup f = some ⟨oc, od, .func (PySem.W.ksFn name qual params body scope dV kV doc pm an cdv ct cc), osl⟩) (hcd : PySem.W.codeIn K cdv qual = true) (hcc : K.lookup cc = some oC) (hcv : oC.data = .cell cv)
    (S : SScope N ps scope) (len : ∀ vs H Q E, sp vs H Q E → vs.length = ps.length)
    (hb : ∀ (A : Around) (outer : List Env) (s : Shared) (H : Hp) (vs : List V) (Q : VK) (E : XK), Room k (A.deeper (PySem.W.ksEnv qual scope s.heap.objs.size f cdv cc)) → sp vs H Q E →
      ∃ t, PSA (cxS CX P w K mg base N qual scope f cdv cc A outer s H E) body body t ∧ t { nx := fun _ H' => Q .non H', rt := Q } (L2.start N vs) H) :
    FnOk P w K mg base CX (k + 1) f (PySem.W.ksFn name qual params body scope dV kV doc pm an cdv ct cc) ps sp := by
  refine ⟨len, fun A outer s H args us vs Q E hr e0 bnd rel wish => ?_⟩
  have okK : K.In s.heap := e0.mod.kin.keeps fun b o e => (e0.bs b o e).1
  have okL : s.heap.NoLimit := e0.mod.nolimit.keeps fun b o e => (e0.bs b o e).1
  refine PySem.ks_codeAny_call_defAt (fd := PySem.W.ksFn name qual params body scope dV kV doc pm an cdv ct cc) (body := body) (binds := ps.zip us) hr.depth (okK _ _ lk) rfl okL (PySem.W.codeRec_of okK hcd) rfl bnd S.nocell (fun y hy => S.par y.1 (List.of_mem_zip (show (y.1, y.2) ∈ ps.zip us from hy)).1) (fun h₀ hns hk => ?_) S.co S.gen S.kind
  obtain ⟨t, ht, hq⟩ := hb A outer s H vs Q E (hr.deeper _) wish
  have J := inv_startS (CX := CX) (E := E) (qual := qual) (f := f) (cd := cdv) (tk := s.toks + (ps.zip us).length) S hr.hd e0 (len _ _ _ _ wish) rel hcc hcv hns hk
  refine PySem.ks_wpAt_mono (ht [] _ (L2.start N vs) H _ J hq) ?_ (fun e s' hs => hs)
  intro fl s' hs
  match fl, hs with
  | .ret u, ⟨v, σ', H', J', rv, q⟩ => exact ⟨v, H', J'.os, J'.bare, J'.base, J'.hok, rv, q⟩
  | .next, ⟨σ', H', J', q⟩ => exact ⟨V.non, H', J'.os, J'.bare, J'.base, J'.hok, rfl, q⟩
  | .brk, ⟨_, _, _, q⟩ => exact q.elim
  | .cont, ⟨_, _, _, q⟩ => exact q.elim
theorem PSA.nox {X : Cx} {b : List Stmt} {st : List Stmt} {t : TS} (h : PSA X.nox b st t) : PSA X b st t := fun pins s σ H D I q =>
  PySem.ks_wpAt_mono (h pins s σ H D (I.wish _) q) (fun _ _ q => q.unwish) fun _ _ z => False.elim z
/-- a method that says super(), as it stands behind the top; cc its cell, D its class -/
structure SFun (P : Program) (K : PySem.W.Frag) (x qual : Str) (st : Stmt) (f : Addr) (fd : FuncData) (cc D : Addr) : Prop where
  ex : ∃ (oc : Value) (od : Option Addr) (dV kV doc pm : Value) (an : Option Addr) (cda : Addr) (ct : Value) (osl : Array (Option Value)), fd = PySem.W.ksFn x qual (defArgs st) (defBody st) (defScope st) dV kV doc pm an (.ref cda) ct cc ∧
    K.lookup f = some ⟨oc, od, .func fd, osl⟩ ∧ PySem.W.codeIn K (.ref cda) qual = true ∧ ∃ o2 vs file tf, K.lookup cda = some o2 ∧ o2.data = .fields vs ∧ vs[2]? = some (.str file tf) ∧ ((P.main.file : Str) == file) = true
  cell : ∃ oC, K.lookup cc = some oC ∧ oC.data = .cell (some (.ref D))
  cls : ∃ cd, PySem.W.clsIn K D = some cd
  top : (P.main.scope.names.lookup ("super" : Str)).isSome = false
  opq : PySem.W.nsIn K cStatics "thirdparty.any" = some none
/-- what psa_super asks of the place -/
structure SuperAt (X : Cx) (D : Addr) : Prop where
  run : ∀ {p0 p1 apos pos pos2 : Pos} {e : Expr} {es : List Expr} {t : TA} {CX : CXT} {k : Nat} {f2 : Addr} {sp : Sp} {E : XK} {b rest : List Stmt} {u : TS} {pl : Sem Bool}
    (F : FnR X.prog X.w X.K X.mg X.base CX k f2 sp) (hr : Room k X.A) (hx : Passes CX X E) (ha : PA X (e :: es) t) (h2 : PSA X b rest u) (hsm : X.mg "super" = none)
    (hf2 : PySem.W.fnIn X.K f2 = true) (hft : PySem.W.typeIn X.K (.ref f2) = some (.type "function"))
    (hi : interactive X.env = false) (hs : swapsWith (.Call (.Attribute (.Call (.Name "super" p0) [] [] p1) "__init__" apos) (e :: es) [] pos) none pos2.line X.env = pure false)
    (he : eval (.Call (.Attribute (.Call (.Name "super" p0) [] [] p1) "__init__" apos) (e :: es) [] pos) X.env = (do
      let ov ← attributeBase (.Call (.Name "super" p0) [] [] p1) "__init__" X.env (eval (.Call (.Name "super" p0) [] [] p1) X.env)
      standAt apos.atName
      let (f, first) ← holding [ov] (getMethod ov "__init__" pl)
      callWith pos f first (backTo pos (starEach (e :: es) X.env)) []))
    (hst : starEach (e :: es) X.env = (false, eval e X.env) :: starEach es X.env) (hpl : (backTo pos (starEach es X.env)).any (·.1) = false),
    PSA X b (.Expr (.Call (.Attribute (.Call (.Name "super" p0) [] [] p1) "__init__" apos) (e :: es) [] pos) pos2 :: rest) (sSuper X.K D f2 sp E t u)
theorem psa_sup {X : Cx} {D : Addr} (S : SuperAt X D) {p0 p1 apos pos pos2 : Pos} {e : Expr} {es : List Expr} {t : TA} {CX : CXT} {k : Nat} {f2 : Addr} {sp : Sp} {E : XK} {b rest : List Stmt} {u : TS} {pl : Sem Bool}
    (F : FnR X.prog X.w X.K X.mg X.base CX k f2 sp) (hr : Room k X.A) (hx : Passes CX X E) (ha : PA X (e :: es) t) (h2 : PSA X b rest u) (hsm : X.mg "super" = none)
    (hf2 : PySem.W.fnIn X.K f2 = true) (hft : PySem.W.typeIn X.K (.ref f2) = some (.type "function"))
    (hi : interactive X.env = false := by rfl) (hs : swapsWith (.Call (.Attribute (.Call (.Name "super" p0) [] [] p1) "__init__" apos) (e :: es) [] pos) none pos2.line X.env = pure false := by rfl)
    (he : eval (.Call (.Attribute (.Call (.Name "super" p0) [] [] p1) "__init__" apos) (e :: es) [] pos) X.env = (do
      let ov ← attributeBase (.Call (.Name "super" p0) [] [] p1) "__init__" X.env (eval (.Call (.Name "super" p0) [] [] p1) X.env)
      standAt apos.atName
      let (f, first) ← holding [ov] (getMethod ov "__init__" pl)
      callWith pos f first (backTo pos (starEach (e :: es) X.env)) []) := by rfl)
    (hst : starEach (e :: es) X.env = (false, eval e X.env) :: starEach es X.env := by rfl) (hpl : (backTo pos (starEach es X.env)).any (·.1) = false := by rfl) :
    PSA X b (.Expr (.Call (.Attribute (.Call (.Name "super" p0) [] [] p1) "__init__" apos) (e :: es) [] pos) pos2 :: rest) (sSuper X.K D f2 sp E t u) := S.run F hr hx ha h2 hsm hf2 hft hi hs he hst hpl
/-- a method that says super() and lets no exception out -/
theorem SFun.ok {P : Program} {w : World} {K : PySem.W.Frag} {mg : Str → Option Value} {base : Heap} {x qual : Str} {st : Stmt} {f cc D : Addr} {fd : FuncData} {N ps : List Str} {k : Nat} {sp : Sp} {ar : Arg} (F : SFun P K x qual st f fd cc D) (S : SScope N ps (defScope st))
    (har : ((defArgs st).posonlyargs ++ (defArgs st).args).head? = some ar) (h0 : N[0]? = some ar.arg) (hl : (defScope st).names.lookup ar.arg = some .local) (len : ∀ vs H Q E, sp vs H Q E → vs.length = ps.length)
    (hb : ∀ (cdv : Value) (A : Around) (outer : List Env) (s : Shared) (H : Hp) (vs : List V) (Q : VK) (E : XK), Room k (A.deeper (PySem.W.ksEnv qual (defScope st) s.heap.objs.size f cdv cc)) →
      SuperAt (cxS CX0 P w K mg base N qual (defScope st) f cdv cc A outer s H E).nox D → sp vs H Q E →
      ∃ t, PSA (cxS CX0 P w K mg base N qual (defScope st) f cdv cc A outer s H E).nox (defBody st) (defBody st) t ∧ t { nx := fun _ H' => Q .non H', rt := Q } (L2.start N vs) H) :
    FnOk P w K mg base CX0 (k + 1) f fd ps sp := by
  obtain ⟨oc, od, dV, kV, doc, pm, an, cda, ct, osl, rfl, lk, hcd, o2, vs2, file, tf, h1, h2, h3, h4⟩ := F.ex
  obtain ⟨oC, c1, c2⟩ := F.cell
  obtain ⟨cdD, hD⟩ := F.cls
  refine fnS_of lk hcd c1 c2 S len ?_
  intro A outer s H vs Q E hr hsp
  obtain ⟨t, h, q⟩ := hb (.ref cda) A outer s H vs Q E hr ⟨fun F2 hr2 hx ha hu hsm hf2 hft hi hs he hst hpl => psa_super F2 hr2 hx ha hu rfl rfl rfl S.sup S.cls lk har h0 hl h1 h2 h3 h4 F.top c1 c2 hD hsm F.opq hf2 hft hi hs he hst hpl⟩ hsp
  exact ⟨t, h.nox, q⟩
end Mo
set_option Elab.async false
set_option linter.all false
set_option maxRecDepth 100000
set_option maxHeartbeats 4000000
/-! max(xs, default=d); stars in displays -/
namespace MoMx
open PySem PySem.Spec PyProof.Rows
section
variable {prog : Program} {w : World} {A : Around} {E : Value → Shared → Prop} {s : Shared}
theorem tree_kw {id : String} {b : Builtin} {args : List Value} {kw : List (Str × Value)} {Q : Value → Shared → Prop} (hk : builtinKind id = none) (hp : plainId id = true) (hb : entryFor table id = some b) (ha : argsOk id ⟨args, kw⟩)
    (hc : wpAny (model prog w) A.in1 (b ⟨args, kw⟩) (fun fin s' => match fin with
      | .done f => (match (Except.ok f : Result) with | .ok (.ret v) => Q v s' | .ok _ => False | .error e => E e s')
      | .again c' => c'.quiet = true ∧ codeAny (model prog w) A c' (fun r s' => match r with | .ok (.ret v) => Q v s' | .ok _ => False | .error e => E e s') s') E s) :
    wpAny (model prog w) A (call (.builtin id) args kw) Q E s := by
  refine wpAny_call (codeAny_call_builtin hp hb ?_)
  simp only [checkBuiltinCall, hk]
  cases z : Manifest.signature? id with
  | none => exact wpAny_pure hc
  | some sig =>
    have ok : Bind.checkArgs id sig ⟨args, kw⟩ = pure () := by simpa only [argsOk, z] using ha
    simp only [ok]
    exact wpAny_pure hc
end
section
variable {prog : Program} {w : World} {A : Around} {R : Result → Shared → Prop} {I : Addr} {fp wr : List Addr} {n : Nat} {P : Nat → Value → Prop} {St : Nat → Heap → Prop}
/-- what the list of the best holds when i items are seen -/
def Best (P : Nat → Value → Prop) (bt : Nat → Nat → Bool) (i : Nat) (old : Array Value) : Prop := (i = 0 ∧ old = #[]) ∨ ∃ vb j, i = j + 1 ∧ old = #[vb, vb] ∧ P (argBest bt j) vb
theorem loop_d (W : Walks prog w A.in1 I fp wr n P St) (bt : Nat → Nat → Bool) (hcmp : CmpOf prog w A.in1 .Gt P bt) (S : Addr) (hSf : S ∉ fp) (d : Value) :
    ∀ (k i : Nat) (s : Shared) (old : Array Value) (c : Nat), n - i = k → i ≤ n → St i s.heap → Best P bt i old → s.heap.get? S = some { cls := .type "list", dict := none, data := .seq old c, slots := #[] } →
    (∀ v h' tk, (n = 0 ∧ v = d ∨ ∃ j, n = j + 1 ∧ P (argBest bt j) v) → (∀ b o, b ∉ wr → b ≠ S → s.heap.get? b = some o → h'.get? b = some o) → R (.ok (.ret v)) { s with heap := h', toks := tk }) →
    codeAny (model prog w) A (.builtin "max.loop" ⟨[.ref I, .none, .ref S], [("default", d)]⟩) R s := by
  have hSw : S ∉ wr := fun h => hSf (W.sub _ h)
  have nm : (toString "max" ++ toString ".loop" : String) = "max.loop" := by decide
  intro k
  induction k with
  | zero =>
    intro i s old c hk hi hst hB hS hR
    have hin : i = n := by omega
    subst hin
    refine codeAny_builtin F.entry_max_loop ?_
    rw [Around.under_plainId F.plain_max_loop _]
    show wpAny _ A.in1 (seqItems? (.ref S) >>= _) _ _ s
    refine wpAny_bind (wpAny_seqItems hS rfl ?_)
    show wpAny _ A.in1 (tryCatch (pyNext (.ref I)) _ >>= _) _ _ s
    refine wpAny_bind (wpAny_tryCatch (W.done s _ _ hst fun h' tk kp => ?_))
    rcases hB with ⟨rfl, rfl⟩ | ⟨vb, j, rfl, rfl, hp⟩
    · exact wpAny_bind (wpAny_rule (wpAny_pure (hR d h' tk (.inl ⟨rfl, rfl⟩) fun b o n1 _ e => kp b o n1 e)))
    · have hS' := kp S _ hSw hS
      show wpAny _ A.in1 (updateSeq S (fun _ => #[]) >>= _) _ _ _
      refine wpAny_bind (wpAny_updateSeq hS' rfl (wpAny_bind (wpAny_letGo (wpAny_pure ?_))))
      exact hR vb _ tk (.inr ⟨j, rfl, hp⟩) fun b o n1 n2 e => (Heap.get?_update_other _ _ (Ne.symm n2)).trans (kp b o n1 e)
  | succ k ih =>
    intro i s old c hk hi hst hB hS hR
    have hlt : i < n := by omega
    have kf : ∀ {h : Heap} {o : Obj} {b : Addr} {g : Obj → Obj}, b ∈ fp → h.get? b = some o → (h.update S g).get? b = some o := fun hb e => (Heap.get?_update_other _ _ (fun z => hSf (by rw [z]; exact hb))).trans e
    refine codeAny_builtin F.entry_max_loop ?_
    rw [Around.under_plainId F.plain_max_loop _]
    show wpAny _ A.in1 (seqItems? (.ref S) >>= _) _ _ s
    refine wpAny_bind (wpAny_seqItems hS rfl ?_)
    show wpAny _ A.in1 (tryCatch (pyNext (.ref I)) _ >>= _) _ _ s
    refine wpAny_bind (wpAny_tryCatch (W.item i s _ _ hlt hst fun v h' tk hP hst' kp => ?_))
    have hS' := kp S _ hSw hS
    rcases hB with ⟨rfl, rfl⟩ | ⟨vb, j, rfl, rfl, hp⟩
    · show wpAny _ A.in1 (updateSeq S (fun _ => #[v, v]) >>= _) _ _ _
      refine wpAny_bind (wpAny_updateSeq hS' rfl ?_)
      rw [nm]
      refine wpAny_pure ⟨plainId_quiet F.plain_max_loop _, ih 1 _ _ _ (by omega) hlt (W.frame _ _ _ hst' fun b hb o e => kf hb e) (.inr ⟨v, 0, rfl, rfl, hP⟩) (Heap.get?_update_self _ hS' rfl) fun v2 h2 tk2 hv2 kp2 => ?_⟩
      exact hR v2 h2 tk2 hv2 fun b o n1 n2 e => kp2 b o n1 n2 ((Heap.get?_update_other _ _ (Ne.symm n2)).trans (kp b o n1 e))
    · show wpAny _ A.in1 (tryCatch (holding [v, v] (richCompare .Gt v vb >>= _)) _ >>= _) _ _ _
      refine wpAny_bind (wpAny_tryCatch (wpAny_holding (wpAny_bind (hcmp (j + 1) (argBest bt j) v vb _ _ _ hP hp (wpAny_bind (wpAny_holding (wpAny_truthy_bool (wpAny_bind (wpAny_letGo (wpAny_pure ?_))))))))))
      cases hb : bt (j + 1) (argBest bt j) with
      | true =>
        simp only [if_true]
        refine wpAny_bind (wpAny_updateSeq hS' rfl (wpAny_bind (wpAny_letGo ?_)))
        rw [nm]
        refine wpAny_pure ⟨plainId_quiet F.plain_max_loop _, ih (j + 2) _ _ _ (by omega) hlt (W.frame _ _ _ hst' fun b hb o e => kf hb e) (.inr ⟨v, j + 1, rfl, rfl, by simp only [argBest, hb, if_true]; exact hP⟩) (Heap.get?_update_self _ hS' rfl) fun v2 h2 tk2 hv2 kp2 => ?_⟩
        exact hR v2 h2 tk2 hv2 fun b o n1 n2 e => kp2 b o n1 n2 ((Heap.get?_update_other _ _ (Ne.symm n2)).trans (kp b o n1 e))
      | false =>
        simp only [Bool.false_eq_true, if_false]
        refine wpAny_bind (wpAny_letGo ?_)
        rw [nm]
        refine wpAny_pure ⟨plainId_quiet F.plain_max_loop _, ih (j + 2) _ _ c (by omega) hlt hst' (.inr ⟨vb, j + 1, rfl, rfl, by simp only [argBest, hb, Bool.false_eq_true, if_false]; exact hp⟩) hS' fun v2 h2 tk2 hv2 kp2 => ?_⟩
        exact hR v2 h2 tk2 hv2 fun b o n1 n2 e => kp2 b o n1 n2 (kp b o n1 e)
end
theorem args_d (a d : Value) : argsOk "max" ⟨[a], [("default", d)]⟩ := by unfold argsOk; kernel_rfl
section
variable {prog : Program} {w : World} {A : Around} {E : Value → Shared → Prop} {s : Shared}
theorem call_d {x d : Value} {Q : Value → Shared → Prop}
    (h : wpAny (model prog w) A.in1 (pyIter x) (fun it s₂ => ∃ I fp wr n P St bt, it = .ref I ∧ Walks prog w A.in1 I fp wr n P St ∧ St 0 s₂.heap ∧ (∀ b ∈ fp, b < s₂.heap.objs.size) ∧ CmpOf prog w A.in1 .Gt P bt ∧
      ∀ v h' tk, (n = 0 ∧ v = d ∨ ∃ j, n = j + 1 ∧ P (argBest bt j) v) → (∀ b o, b ∉ wr → s₂.heap.get? b = some o → h'.get? b = some o) → Q v { s₂ with heap := h', toks := tk }) E s) :
    wpAny (model prog w) A (call (.builtin "max") [x] [("default", d)]) Q E s := by
  have nm : (toString "max" ++ toString ".loop" : String) = "max.loop" := by decide
  refine tree_kw F.kind_max F.plain_max F.entry_max (args_d _ _) ?_
  show wpAny _ A.in1 (Builtin.Builtins.bindParams "max" ["key", "default"] 0 ⟨[], [("default", d)]⟩ >>= _) _ _ s
  refine wpAny_bind (wpAny_of_eq (show Builtin.Builtins.bindParams "max" ["key", "default"] 0 ⟨[], [("default", d)]⟩ = pure [none, some d] from rfl) ?_)
  refine wpAny_bind (wpAny_pure ?_)
  refine wpAny_bind (wpAny_mono h (fun it s₂ h₂ => ?_) fun _ _ e => e)
  obtain ⟨I, fp, wr, n, P, St, bt, rfl, W, hst, hfp, hcmp, hQ⟩ := h₂
  refine wpAny_bind (wpAny_newObj_type ?_)
  have hSf : s₂.heap.objs.size ∉ fp := fun hm => Nat.lt_irrefl _ (hfp _ hm)
  rw [nm]
  refine wpAny_pure ⟨plainId_quiet F.plain_max_loop _, loop_d W bt hcmp s₂.heap.objs.size hSf d n 0 _ #[] _ rfl (Nat.zero_le _) (W.frame _ _ _ hst fun b _ o e => Heap.get?_push_of_some _ e) (.inl ⟨rfl, rfl⟩) (Heap.get?_push_size _ rfl) fun v h' tk hP hk => ?_⟩
  exact hQ v h' tk hP fun b o n1 e => hk b o n1 (Nat.ne_of_lt (Heap.lt_size e)) (Heap.get?_push_of_some _ e)
end
end MoMx
namespace Mo
open PySem PySem.Spec PyProof.Rows L2
section
variable {X : Cx}
/-- max(xs, default=d), xs a list of ints -/
def rMaxDf (K : PySem.W.Frag) : List V → List V → Hp → VK → Prop := fun vs zs H Q => ∃ (a : Addr) (ns : List Int) (d : V), vs = [V.ref a] ∧ zs = [d] ∧ SqL K H a (ns.map V.int) ∧ (ns = [] → Q d H) ∧ ∀ m, m ∈ ns → (∀ y, y ∈ ns → y ≤ m) → Q (.int m) H
theorem cr_maxDf (hc : X.calm = true) : CallRK X (.builtin "max") ["default"] (rMaxDf X.K) := by
  intro pins s σ H vs zs us ws Q I r1 r2 h
  obtain ⟨a, ns, d, rfl, rfl, hs, q0, q⟩ := h
  obtain ⟨its, rv, hl, _⟩ := I.list hs
  rw [Vals.ref1 r1]
  obtain ⟨ud, rfl, rd⟩ := vals1 r2
  have hi := rv.ints
  have hl := hl.isList
  obtain ⟨xs, e⟩ := hi.allInts.items
  have hn : numsOf (intItems xs).toList = ns := by rw [← e]; exact hi.numsOf
  rw [nums_intItems] at hn
  subst hn
  rw [e] at hl
  show wpAny (model X.prog X.w) X.A (call (.builtin "max") [.ref a] [("default", ud)]) _ _ s
  refine MoMx.call_d (iter_intList hl fun s₂ e2 st hfp hlI => ?_)
  subst e2
  refine ⟨_, _, _, _, _, _, _, rfl, Walks.list (A := X.A.in1) (I.ok.hd hc) _ a hlI (intItems xs), st, hfp, CmpOf.ints_gt (numAt xs) (fun _ _ => intItems_at), fun v h' tk hP hk => ?_⟩
  have I' : Inv X pins σ H _ := I.kept (h' := h') (t' := tk) (old_kept hk)
  have sz : (intItems xs).size = xs.size := by simp [intItems]
  rcases hP with ⟨h0, rfl⟩ | ⟨j, hj, hP⟩
  · rw [sz] at h0
    refine ⟨d, H, I', rd, q0 ?_⟩
    rw [List.map_eq_nil_iff, Array.toList_eq_nil_iff]
    exact Array.size_eq_zero_iff.mp h0
  · rw [sz] at hj
    obtain ⟨t, rfl⟩ := intItems_at hP
    obtain ⟨h1, h2⟩ := argBest_gt (numAt xs) j
    refine ⟨.int _, H, I', ⟨t, rfl⟩, q _ ?_ fun y hy => ?_⟩
    · rw [numAt_eq]
      exact PySem.getD_mem (by rw [List.length_map, Array.length_toList]; omega)
    · obtain ⟨i, hi, rfl⟩ := mem_getD hy
      rw [List.length_map, Array.length_toList] at hi
      rw [← numAt_eq]
      exact h2 i (by omega)
/-- *e in a display or a call, e a tuple or a list -/
def tStar (K : PySem.W.Frag) (te : TE) (t : TA) : TA := fun σ H Q => te σ H fun x H1 => ∃ a xs, x = .ref a ∧ (SqT K H1 a xs ∨ SqL K H1 a xs) ∧ t σ H1 fun ys H2 => Q (xs ++ ys) H2
theorem star_lst {pins : List (Addr × Obj)} {σ : L2.St} {H : Hp} {s : Shared} {a : Addr} {xs : List V} {E : Value → Shared → Prop} {Q : List Value → Shared → Prop} (I : Inv X pins σ H s) (h : SqL X.K H a xs) (hQ : ∀ us s', Inv X pins σ H s' → Vals xs us → Q us s') :
    PySem.W.StarOf (model X.prog X.w) X.A E (.ref a) Q s := by
  obtain ⟨its, r, pl, hz⟩ := I.list h
  obtain ⟨o, n, ho, hc, _, hd⟩ := pl
  have hl := r.length
  unfold PySem.W.StarOf notIterableAtAll
  refine wpAny_bind (wpAny_specialOf (show s.TypeIs (.ref a) "list" from ⟨o, ho, hc⟩) PySem.F.slot_list_iter.lookup (wpAny_pure ⟨rfl, wpAny_collect_seq a (.inl rfl) ho hc hd (fun h' hk => ?_) (by rw [List.size_toArray]; omega)⟩))
  have e : its.toArray.toList = its := by simp
  rw [e]
  exact hQ its _ (I.kept (t' := s.toks) hk) r
theorem pa_star {e : Expr} {es : List Expr} {te : TE} {t : TA} {p : Pos} (he : PE X e te) (ht : PA X es t) (hs : starEach (.Starred e p :: es) X.env = (true, eval e X.env) :: starEach es X.env := by rfl) : PA X (.Starred e p :: es) (tStar X.K te t) := by
  refine ⟨fun pos pins s σ H Q I h => PySem.W.items_star (thn (he.run pins s σ H _ I h) fun v s1 hv => ?_) hs⟩
  obtain ⟨x, H1, I1, rx, a, xs, ex, hq, q⟩ := hv
  subst ex
  cases (show v = Value.ref a from rx)
  have fin : ∀ us s2, Inv X pins σ H1 s2 → Vals xs us → wpAny (model X.prog X.w) X.A (spliced (backTo pos (starEach es X.env))) (fun vs s₃ => AP X pins σ Q (us ++ vs) s₃) X.xe s2 := fun us s2 I2 r =>
    thn (ht.run pos pins s2 σ H1 _ I2 q) fun ws s3 hw => let ⟨ys, H3, I3, r3, q3⟩ := hw; ⟨xs ++ ys, H3, I3, r.append r3, q3⟩
  rcases hq with hq | hq
  · exact star_tup I1 hq fin
  · exact star_lst I1 hq fin
end
end Mo
set_option Elab.async false
set_option linter.all false
set_option maxRecDepth 100000
set_option maxHeartbeats 4000000
/-! own classes in a family: what holds of each class of it -/
namespace Mo
open PySem PySem.Spec PyProof.Rows L2
theorem kit_of_subR {K : PySem.W.Frag} {C : Addr} {t : Value} {b : Bool} (ci : PySem.W.isClsIn K C = true) (tc : PySem.W.typeIn K (.ref C) = some (.type "type")) (sb : PySem.W.subIn K t (.ref C) = some b) (hne : (t == Value.ref C) = false) : PySem.W.kitOne K t (.ref C) = some b := by
  unfold PySem.W.kitOne
  rw [hne, if_neg Bool.false_ne_true]
  show (if ((PySem.W.clsIn K C).isSome && PySem.W.typeIn K (.ref C) == some (.type "type")) = true then PySem.W.subIn K t (.ref C) else none) = some b
  rw [tc, show (PySem.W.clsIn K C).isSome = true from ci]
  exact sb
/-- what is asked of each class of a family -/
structure FamC (K : PySem.W.Frag) (C : Addr) (attrs : List Str) : Prop where
  cl : Cls K C
  mo : PySem.W.mroIn K C (.type "object") = some true
  na : ∀ f ∈ attrs, NoAttr K C f
  ty : ∀ (H : Hp) (a dx : Addr) (fs : List (Str × V)), H a = some (.ins C dx fs) → TyX K H (.ref a) (.ref C)
  ne : PySem.W.findIn K (.ref C) "__ne__" = some (some (.builtin "object.__ne__"))
  nf7 : ∀ n : Ty7, PySem.W.notFirst K C (.type n.nm) = true
  ki7 : ∀ n : Ty7, PySem.W.kitOne K (.type n.nm) (.ref C) = some false
  ci : PySem.W.isClsIn K C = true
  tc : PySem.W.typeIn K (.ref C) = some (.type "type")
theorem nm_seven (n : Ty7) : n.nm ∈ seven := by cases n <;> decide
theorem famC_of {K : PySem.W.Frag} {C : Addr} {attrs : List Str} (h : famChk K C attrs = true) (xg : PySem.W.specialIn K (.builtin "object.__class__") "__get__" = some (some (.builtin "getset_descriptor.__get__"))) (xt : PySem.W.takesIn K (.builtin "object.__class__") = some true) : FamC K C attrs := by
  unfold famChk at h
  simp only [Bool.and_eq_true] at h
  obtain ⟨⟨⟨⟨⟨⟨⟨⟨⟨⟨h1, h2⟩, h3⟩, h4⟩, h5⟩, h6⟩, h7⟩, h8⟩, h9⟩, h10⟩, h11⟩ := h
  have h4 := beq_iff_eq.mp h4
  have h5 := beq_iff_eq.mp h5
  have h7 := beq_iff_eq.mp h7
  have h8 := beq_iff_eq.mp h8
  have h11 := beq_iff_eq.mp h11
  have c : Cls K C := ⟨h1, h2, h3, h4⟩
  have sv : ∀ n : Ty7, PySem.W.notFirst K C (.type n.nm) = true ∧ PySem.W.subIn K (.type n.nm) (.ref C) = some false := by
    intro n
    have := List.all_eq_true.mp h9 _ (nm_seven n)
    rw [Bool.and_eq_true] at this
    exact ⟨this.1, beq_iff_eq.mp this.2⟩
  exact ⟨c, h5, fun f hf => beq_iff_eq.mp (List.all_eq_true.mp h6 f hf), fun H a dx fs h => .base (.ins h c h8 xg xt h5), h7, fun n => (sv n).1, fun n => kit_of_sub h10 h11 (sv n).2, h10, h11⟩
theorem tab_of {K : PySem.W.Frag} {cs : List Addr} {attrs : List Str} (h : tabChk K cs = true) (hc : ∀ C ∈ cs, FamC K C attrs) : ∀ (i j : Nat) (C D : Addr), cs[i]? = some C → cs[j]? = some D → PySem.W.kitOne K (.ref C) (.ref D) = some (i == j) ∧ PySem.W.notFirst K C (.ref D) = true := by
  intro i j C D hi hj
  have h := List.all_eq_true.mp (List.all_eq_true.mp h i (List.mem_range.mpr (List.getElem?_eq_some_iff.mp hi).1)) j (List.mem_range.mpr (List.getElem?_eq_some_iff.mp hj).1)
  have e1 : cs.getD i 0 = C := by simp [List.getD, hi]
  have e2 : cs.getD j 0 = D := by simp [List.getD, hj]
  rw [e1, e2] at h
  simp only [Bool.and_eq_true] at h
  obtain ⟨⟨h1, h2⟩, h3⟩ := h
  refine ⟨?_, h3⟩
  have h1 := beq_iff_eq.mp h1
  have h2 := beq_iff_eq.mp h2
  have fc := hc D (List.mem_of_getElem? hj)
  cases e : (i == j) with
  | true =>
    rw [e] at h2
    have : C = D := beq_iff_eq.mp h2
    subst this
    exact kit_self _
  | false =>
    rw [e] at h1 h2
    refine kit_of_subR fc.ci fc.tc h1 ?_
    cases z : (Value.ref C == Value.ref D) with
    | false => rfl
    | true =>
      have z := beq_iff_eq.mp z
      injection z with z
      subst z
      simp at h2
section
variable {X : Cx} {CX : CXT} {k : Nat} {f : Addr} {fd : FuncData} {ps : List Str} {sp : Sp} {E : XK} {CC : Addr → Prop}
/-- e.f, a property of each class of a family -/
def tPropF (CC : Addr → Prop) (sp : Sp) (E : XK) (ta : TE) : TE := fun σ H Q => ta σ H fun x H1 => ∃ a C dx fs, x = .ref a ∧ CC C ∧ H1 a = some (.ins C dx fs) ∧ sp [.ref a] H1 Q E
theorem pe_propF {e : Expr} {ta : TE} {n : Str} {p : Addr} {pos : Pos} (he : PE X e ta) (hC : ∀ C, CC C → Cls X.K C ∧ PropOf X.K C n p f) (F : FnOk X.prog X.w X.K X.mg X.base CX k f fd ps sp) (hr : Room (k + 1) X.A) (hb : Binds X.K fd ps []) (hx : Passes CX X.nox E)
    (hab : attributeBase e n X.env (eval e X.env) = eval e X.env := by rfl) : PE X (.Attribute e n pos) (tPropF CC sp E ta) := by
  refine ⟨fun pins s σ H Q I h => ?_⟩
  refine attr_of hab (thn (he.run pins s σ H _ I h) fun u s1 ⟨x, H1, I1, rx, a, C, dx, fs, ex, hc, ea, q⟩ => ?_)
  subst ex
  obtain rfl : u = Value.ref a := rx
  exact getprop_ok (dvs := []) (ds := []) I1 ea (hC C hc).1 (hC C hc).2 F hr hb .nil hx q
/-- repr(o) by the own __repr__ -/
theorem call_reprF (F : FnOk X.prog X.w X.K X.mg X.base CX k f fd ps sp) (hr : Room (k + 1) X.A) (S : ∀ C, CC C → Spc X.K C "__repr__" f) (hb : Binds X.K fd ps []) (hx : Passes CX X E) :
    CallR X (.builtin "repr") (fun xs H Q => ∃ a C dx fs, xs = [.ref a] ∧ CC C ∧ H a = some (.ins C dx fs) ∧ sp [.ref a] H (fun v H' => ∃ z : Str, v = .str z ∧ Q v H') E) := by
  intro pins s σ H xs us Q I r h
  obtain ⟨a, C, dx, fs, rfl, hc, ha, h⟩ := h
  exact call_reprO F hr (S C hc) hb hx pins s σ H _ us Q I r ⟨a, dx, fs, rfl, ha, h⟩
/-- str(o) by the own __str__ -/
theorem call_strF (F : FnOk X.prog X.w X.K X.mg X.base CX k f fd ps sp) (hr : Room (k + 2) X.A) (S : ∀ C, CC C → Spc X.K C "__str__" f) (hb : Binds X.K fd ps []) (hx : Passes CX X E) :
    CallR X (.type "str") (fun xs H Q => ∃ a C dx fs, xs = [.ref a] ∧ CC C ∧ H a = some (.ins C dx fs) ∧ sp [.ref a] H (fun v H' => ∃ z : Str, v = .str z ∧ Q v H') E) := by
  intro pins s σ H xs us Q I r h
  obtain ⟨a, C, dx, fs, rfl, hc, ha, h⟩ := h
  obtain ⟨u, rfl, ru⟩ := vals1 r
  cases ru
  obtain ⟨mA, J, _⟩ := ins_get I.hok ha
  obtain ⟨od, J, _⟩ := J.look
  have hr2 : Room k X.A.in1.in1 := (show Room (k + 1) X.A.in1 from Room.in1 hr).in1
  refine PySem.W.kso_call hr2.units0 I.kIn J (S C hc).at_ (S C hc).fn ?_
  refine wpAny_mono (run_under (A := X.A.in1.in1) (vs := [.ref a]) F hr2 rfl hb hx I (.cons rfl .nil) h) (fun v s' hv => ?_) fun _ _ e => e
  obtain ⟨v', H', I', rv, z, rfl, q⟩ := hv
  obtain ⟨t, rfl⟩ := rv
  exact ⟨.str z, H', I', ⟨t, rfl⟩, q⟩
def rEqF (K : PySem.W.Frag) (CC : Addr → Prop) (sp : Sp) (E : XK) (g : Bool → Bool) : R2 := fun x y H Q => ∃ a C dx fs t, x = .ref a ∧ CC C ∧ H a = some (.ins C dx fs) ∧ TyX K H y t ∧ PySem.W.notFirst K C t = true ∧
  sp [x, y] H (fun v H' => ∃ b, v = .bl b ∧ Q (.bl (g b)) H') E
theorem op_eqF (F : FnOk X.prog X.w X.K X.mg X.base CX k f fd ps sp) (hr : Room k X.A) (S : ∀ C, CC C → Spc X.K C "__eq__" f) (hb : Binds X.K fd ps []) (hx : Passes CX X E) : OpR X (compareOp .Eq) (rEqF X.K CC sp E id) := by
  intro pins s σ H x y v u Q I rx ry h
  obtain ⟨a, C, dx, fs, t, rfl, hc, h⟩ := h
  exact op_eqO F hr (S C hc) hb hx pins s σ H _ y v u Q I rx ry ⟨a, dx, fs, t, rfl, h⟩
theorem op_neF (F : FnOk X.prog X.w X.K X.mg X.base CX k f fd ps sp) (hr : Room (k + 1) X.A) (S : ∀ C, CC C → Spc X.K C "__eq__" f ∧ PySem.W.findIn X.K (.ref C) "__ne__" = some (some (.builtin "object.__ne__")) ∧ PySem.W.mroIn X.K C (.type "object") = some true)
    (hb : Binds X.K fd ps []) (hx : Passes CX X E) : OpR X (compareOp .NotEq) (rEqF X.K CC sp E not) := by
  intro pins s σ H x y v u Q I rx ry h
  obtain ⟨a, C, dx, fs, t, rfl, hc, h⟩ := h
  obtain ⟨h1, h2, h3⟩ := S C hc
  exact op_neO F hr h1 h2 h3 hb hx pins s σ H _ y v u Q I rx ry ⟨a, dx, fs, t, rfl, h⟩
end
/-! ### defaults -/
theorem bindsD {K : PySem.W.Frag} {fd : FuncData} {T : Addr} {o : Obj} {its : List Value} {m n j : Nat} {ps : List Str} (lT : K.lookup T = some o) (oT : o.data = .seq its.toArray m) (hn : n + (its.length - j) = ps.length)
    (h : ∀ us : List Value, us.length = n → ∃ k, bindArgs fd ⟨us, []⟩ = seqItems? (.ref T) >>= k ∧ k (some its.toArray) = pure (ps.zip (us ++ its.drop j))) : Binds K fd ps (its.drop j) := by
  intro s us X hlen
  have l2 : us.length = n := by
    rw [List.length_append, List.length_drop] at hlen
    omega
  obtain ⟨k, e1, e2⟩ := h us l2
  refine BindsTo.of_looks fun M => ?_
  rw [e1]
  exact looks_items X lT oT (.of_pure e2)
end Mo
namespace Mo
open PySem PySem.Spec PyProof.Rows L2
theorem sub_of {K : PySem.W.Frag} {C B : Addr} {attrs : List Str} (hb : famChk K B attrs = true) (h : ((PySem.W.mroIn K C (.ref B) == some true) && ((PySem.W.subIn K (.ref C) (.ref B) == some true) && (C != B))) = true) :
    PySem.W.mroIn K C (.ref B) = some true ∧ PySem.W.kitOne K (.ref C) (.ref B) = some true := by
  simp only [Bool.and_eq_true] at h
  obtain ⟨h1, h2, h3⟩ := h
  unfold famChk at hb
  simp only [Bool.and_eq_true] at hb
  refine ⟨beq_iff_eq.mp h1, kit_of_subR hb.1.2 (beq_iff_eq.mp hb.2) (beq_iff_eq.mp h2) ?_⟩
  cases z : (Value.ref C == Value.ref B) with
  | false => rfl
  | true =>
    have z := beq_iff_eq.mp z
    injection z with z
    subst z
    simp at h3
theorem cread_of {K : PySem.W.Frag} {C : Addr} (h : (PySem.W.readsIn K C (.type "type") && (PySem.W.specialIn K (.ref C) "__getattribute__" == some (some (.builtin "type.__getattribute__")))) = true) : ClX.CRead K C (.type "type") := by
  rw [Bool.and_eq_true] at h
  exact ⟨h.1, beq_iff_eq.mp h.2⟩
/-- a def or method with defaults, as it stands behind the top -/
structure FunV (K : PySem.W.Frag) (x qual : Str) (st : Stmt) (dV : Value) (f : Addr) (fd : FuncData) : Prop where
  ex : ∃ (oc : Value) (od : Option Addr) (kV doc pm : Value) (an : Option Addr) (cdv ct : Value) (osl : Array (Option Value)),
    fd = PySem.W.fnOf x qual (defArgs st) (defBody st) (defScope st) dV kV doc pm an cdv ct ∧ K.lookup f = some ⟨oc, od, .func fd, osl⟩ ∧ PySem.W.codeIn K cdv qual = true
  kp : PySem.W.keepIn K (.ref f) = true
theorem FunV.ok {P : Program} {w : World} {K : PySem.W.Frag} {mg : Str → Option Value} {base : Heap} {x qual : Str} {st : Stmt} {dV : Value} {f : Addr} {fd : FuncData} {N ps : List Str} {k : Nat} {sp : Sp} (F : FunV K x qual st dV f fd) (S : FnScope N ps (defScope st)) (len : ∀ vs H Q E, sp vs H Q E → vs.length = ps.length)
    (hbody : ∀ (cdv : Value) (A : Around) (outer : List Env) (s : Shared) (H : Hp) (vs : List V) (Q : VK) (E : XK), Room k (A.deeper (envOfC qual (defScope st) s.heap.objs.size f cdv)) → sp vs H Q E →
      ∃ t, PSs (cxOf CX0 P w K mg base N qual (defScope st) f cdv A outer s H E).nox (defBody st) t ∧ t { nx := fun _ H' => Q .non H', rt := Q } (L2.start N vs) H) : FnOk P w K mg base CX0 (k + 1) f fd ps sp := by
  obtain ⟨oc, od, kV, doc, pm, an, cdv, ct, osl, rfl, lk, hcd⟩ := F.ex
  refine fn_of lk hcd S len fun A outer s H vs Q E hr hsp => ?_
  obtain ⟨t, h, q⟩ := hbody cdv A outer s H vs Q E hr hsp
  exact ⟨t, h.nox, q⟩
/-- an expression that is never reached -/
theorem pe_never {X : Cx} {e : Expr} : PE X e (fun _ _ _ => False) := ⟨fun _ _ _ _ _ _ h => h.elim⟩
end Mo
namespace Mo
open PySem PySem.Spec PyProof.Rows L2
section
variable {J : It} {n : Nat} {G : Hp → Prop} {Y : Nat → Hp → V → Hp → Prop}
/-- the inner loop of a comprehension of two fors -/
theorem in_it (w : Walk J n G Y) {g : TG} {tt : TT} {te : TE} {vs : List Nat} {σ : L2.St} {H1 : Hp} {D : Addr} {Qd : Hp → Prop} (Pv : Nat → Hp → Prop) (h0 : Pv 0 H1) (hG : ∀ i H, i ≤ n → Pv i H → G H)
    (hs : ∀ i x H H', i < n → Pv i H → Y i H x H' → g x (wipe σ vs) H' fun σ2 H2 => wipe σ2 vs = wipe σ vs ∧ tt σ2 H2 fun b H3 =>
      if b = true then te σ2 H3 fun y H4 => ∃ acc, H4 D = some (.lst acc) ∧ acc.length < sizeLine ∧ Pv (i + 1) (upd H4 D (.lst (acc ++ [y]))) else Pv (i + 1) H3) (hd : ∀ H, Pv n H → Qd H) :
    ∃ W : Nat → Nat → Hp → Prop, (∃ m, W 0 m H1) ∧ ∀ i m H, W i m H →
      (J.stop i H ∧ Qd H) ∨ (J.go i H ∧ ∃ Nx : Hp → Prop, (∀ H', Nx H' → ∃ m', m' < m ∧ W (i + 1) m' H') ∧ ∀ x H', J.yld i H x H' → g x (wipe σ vs) H' fun σ2 H2 => wipe σ2 vs = wipe σ vs ∧ tt σ2 H2 fun b H3 =>
        if b = true then te σ2 H3 fun y H4 => ∃ acc, H4 D = some (.lst acc) ∧ acc.length < sizeLine ∧ Nx (upd H4 D (.lst (acc ++ [y]))) else Nx H3) := by
  refine ⟨fun i m H => m = n - i ∧ i ≤ n ∧ Pv i H, ⟨n, by simp, Nat.zero_le _, h0⟩, ?_⟩
  rintro i m H ⟨rfl, hi, p⟩
  have q := hG i H hi p
  by_cases hlt : i < n
  · refine .inr ⟨w.goes i H hlt q, Pv (i + 1), fun H' p' => ⟨n - (i + 1), by omega, rfl, hlt, p'⟩, fun x H' y => hs i x H H' hlt p (w.yields i H x H' hlt q y)⟩
  · have e : i = n := by omega
    subst e
    exact .inl ⟨w.stops H q, hd H p⟩
/-- the outer loop: Rd tells what follows a turn's target -/
theorem out_it (w : Walk J n G Y) {g : TG} {vs : List Nat} {σ : L2.St} {H1 : Hp} {D : Addr} {Qd : Hp → Prop} {Rd : (Hp → Prop) → L2.St → Hp → Prop} (Pv : Nat → Hp → Prop) (h0 : Pv 0 (upd H1 D (.lst []))) (hG : ∀ i H, i ≤ n → Pv i H → G H)
    (hs : ∀ i x H H', i < n → Pv i H → Y i H x H' → g x (wipe σ vs) H' (Rd (Pv (i + 1)))) (hd : ∀ H, Pv n H → Qd H) :
    ∃ W : Nat → Nat → Hp → Prop, (∃ m, W 0 m (upd H1 D (.lst []))) ∧ ∀ i m H, W i m H →
      (J.stop i H ∧ Qd H) ∨ (J.go i H ∧ ∃ Nx : Hp → Prop, (∀ H', Nx H' → ∃ m', m' < m ∧ W (i + 1) m' H') ∧ ∀ x H', J.yld i H x H' → g x (wipe σ vs) H' (Rd Nx)) := by
  refine ⟨fun i m H => m = n - i ∧ i ≤ n ∧ Pv i H, ⟨n, by simp, Nat.zero_le _, h0⟩, ?_⟩
  rintro i m H ⟨rfl, hi, p⟩
  have q := hG i H hi p
  by_cases hlt : i < n
  · refine .inr ⟨w.goes i H hlt q, Pv (i + 1), fun H' p' => ⟨n - (i + 1), by omega, rfl, hlt, p'⟩, fun x H' y => hs i x H H' hlt p (w.yields i H x H' hlt q y)⟩
  · have e : i = n := by omega
    subst e
    exact .inl ⟨w.stops H q, hd H p⟩
end
end Mo
namespace Mo
open PySem PySem.Spec PyProof.Rows L2
/-- an f-string, its reading by a name -/
def tFs (ts : List TE) : TE := fun σ H Q => tJs ts Str.empty σ H fun out H1 => Q (.str out) H1
theorem pe_fs {X : Cx} {v1 v2 : Expr} {rest : List Expr} {ts : List TE} {pos : Pos} (h : PJ X (v1 :: v2 :: rest) ts) : PE X (.JoinedStr (v1 :: v2 :: rest) pos) (tFs ts) := pe_joined h
end Mo
namespace Mo
open PySem PySem.Spec PyProof.Rows L2
/-- readings by a name, for rules within a comprehension's block -/
def rLenS (K : PySem.W.Frag) : List V → Hp → VK → Prop := fun xs H Q => ∃ p ys, xs = [.ref p] ∧ (SqL K H p ys ∨ SqT K H p ys) ∧ Q (.int ys.length) H
theorem Src.ne_strs {H : Hp} {a p : Addr} {zs : List Str} (s : Src H a) (h : H p = some (.lst (zs.map V.str))) : p ≠ a := by
  rintro rfl
  obtain ⟨x, y, c, e, _⟩ := s
  rw [h] at e
  cases zs with
  | nil => cases e
  | cons z zs => cases e
theorem Src.ne_refs {H : Hp} {a p : Addr} {zs : List Addr} (s : Src H a) (h : H p = some (.lst (zs.map V.ref))) : p ≠ a := by
  rintro rfl
  obtain ⟨x, y, c, e, _⟩ := s
  rw [h] at e
  cases zs with
  | nil => cases e
  | cons z zs => cases e
theorem Src.fresh {H : Hp} {a p : Addr} (s : Src H a) (h : H p = none) : p ≠ a := by
  rintro rfl
  obtain ⟨x, y, c, e, _⟩ := s
  rw [h] at e
  cases e
theorem Src.upd {H : Hp} {a p : Addr} {o : HO} (s : Src H a) (h : p ≠ a) : Src (L2.upd H p o) a := by
  obtain ⟨x, y, c, e, r⟩ := s
  exact ⟨x, y, c, by rw [upd_ne h.symm]; exact e, r⟩
theorem Src.lst {H : Hp} {a : Addr} (s : Src H a) : ∃ xs, H a = some (.lst xs) := let ⟨x, y, c, e, _⟩ := s; ⟨_, e⟩
theorem all_flat_strs (l : List Str) : (l.map V.str).all flatV = true := by
  rw [List.all_eq_true]
  intro x hx
  obtain ⟨z, _, rfl⟩ := List.mem_map.mp hx
  rfl
end Mo
namespace Mo
open PySem PySem.Spec PyProof.Rows L2
/-- parts of statements -/
def forBody (s : Stmt) : List Stmt := match s with
  | .For _ _ b _ _ => b
  | _ => []
def ifBody (s : Stmt) : List Stmt := match s with
  | .If _ b _ _ => b
  | _ => []
def ifElse (s : Stmt) : List Stmt := match s with
  | .If _ _ b _ => b
  | _ => []
abbrev stAt (l : List Stmt) (i : Nat) : Stmt := l.getD i (.Pass ⟨0, 0, 0, 0⟩)
end Mo
set_option Elab.async false
set_option linter.all false
set_option maxRecDepth 100000
set_option maxHeartbeats 4000000
/-! the top by one run; its facts by truths over a part of the heap -/
namespace Mo
open PySem PySem.Spec PyProof.Rows L2
/-! ### defs by names -/
theorem fdOf_eq {K : PySem.W.Frag} {a : Addr} {oc : Value} {od : Option Addr} {fd : FuncData} {sl : Array (Option Value)} (h : K.lookup a = some ⟨oc, od, .func fd, sl⟩) : fdOf K a = fd := by
  unfold fdOf
  rw [h]
/-- the def's object, by what is told of it -/
theorem fnI_ex {K : PySem.W.Frag} {a : Addr} {name qual : Str} {st : Stmt} {cl : List Str} (e : fnI K a = fnV name qual st cl) :
    ∃ (oc : Value) (od : Option Addr) (dV kV doc pm : Value) (an : Option Addr) (cdv ct : Value) (osl : Array (Option Value)) (cs : List (Str × Addr)), cs.map (·.1) = cl ∧ fdOf K a = ⟨name, qual, defArgs st, .stmts (defBody st), defScope st, mainGlobals, cs, dV, kV, doc, pm, an, cdv, ct, builtinsNs⟩ ∧
      K.lookup a = some ⟨oc, od, .func (fdOf K a), osl⟩ := by
  unfold fnI at e
  cases q : K.lookup a with
  | none =>
    rw [q] at e
    cases e
  | some o =>
    obtain ⟨oc, od, dt, osl⟩ := o
    rw [q] at e
    cases dt with
    | func fd =>
      have ef := fdOf_eq q
      obtain ⟨n1, n2, n3, n4, n5, n6, n7, n8, n9, n10, n11, n12, n13, n14, n15⟩ := fd
      have e2 : (some (n1, n2, n3, n4, n5, n6, n7.map (·.1), n15) : FnI) = some (name, qual, defArgs st, .stmts (defBody st), defScope st, mainGlobals, cl, builtinsNs) := e
      simp only [Option.some.injEq, Prod.mk.injEq] at e2
      obtain ⟨h1, h2, h3, h4, h5, h6, h7, h8⟩ := e2
      subst h1 h2 h3 h4 h5 h6 h8
      exact ⟨oc, od, n8, n9, n10, n11, n12, n13, n14, osl, n7, h7, ef, by rw [ef]⟩
    | _ => cases e
theorem fun_of {K : PySem.W.Frag} {a : Addr} {name qual : Str} {st : Stmt} (e : fnI K a = fnV name qual st []) (c : fnB K a qual = true) : Fun K name qual st a (fdOf K a) := by
  obtain ⟨oc, od, dV, kV, doc, pm, an, cdv, ct, osl, cs, hcs, ef, lk⟩ := fnI_ex e
  obtain ⟨c1, c2⟩ := Bool.and_eq_true_iff.mp c
  obtain ⟨c2, c3⟩ := Bool.and_eq_true_iff.mp c2
  cases cs with
  | cons x l => simp at hcs
  | nil =>
    rw [ef] at c2
    have hd : dV = .none := by
      unfold noDfl at c3
      rw [ef] at c3
      cases dV <;> first | rfl | cases c3
    subst hd
    exact ⟨⟨oc, od, kV, doc, pm, an, cdv, ct, osl, ef, lk, c2⟩, c1⟩
theorem Fun.law {K : PySem.W.Frag} {x qual : Str} {st : Stmt} {f : Addr} {fd : FuncData} {p : Str} (F : Fun K x qual st f fd)
    (h : ∀ (kV doc pm : Value) (an : Option Addr) (cdv ct : Value) (u : Value), bindArgs (PySem.W.fnOf x qual (defArgs st) (defBody st) (defScope st) .none kV doc pm an cdv ct) ⟨[u], []⟩ = pure [(p, u)]) (s : Shared) (u : Value) : BindsTo s fd ⟨[u], []⟩ [(p, u)] := by
  obtain ⟨oc, od, kV, doc, pm, an, cdv, ct, osl, rfl, lk, hcd⟩ := F.ex
  exact .of_eq (h kV doc pm an cdv ct u)
/-! ### defaults -/
theorem tup0_ok {K : PySem.W.Frag} {x : Addr} (h : tup0B K x = true) : (∀ H, SqT K H x []) ∧ ∀ H, TyX K H (.ref x) (.type "tuple") := by
  unfold tup0B at h
  cases q : K.lookup x with
  | none =>
    rw [q] at h
    cases h
  | some o =>
    obtain ⟨oc, od, dt, osl⟩ := o
    rw [q] at h
    cases oc with
    | type c =>
      cases dt with
      | seq its n =>
        obtain ⟨h1, h2⟩ := Bool.and_eq_true_iff.mp (show (decide (c = "tuple") && its.toList.isEmpty) = true from h)
        have h1 := of_decide_eq_true h1
        subst h1
        have h2 : its.toList = [] := List.isEmpty_iff.mp h2
        refine ⟨fun H => .inr ⟨_, its, n, q, rfl, rfl, ?_, by rw [h2]; exact .nil⟩, fun H => .kTuple q rfl⟩
        rw [← Array.length_toList, h2]
        exact Nat.zero_le _
      | _ => cases h
    | _ => cases dt <;> cases h
def dvals (K : PySem.W.Frag) (a : Addr) (ks : List Bool) : List Value := ks.zipIdx.map fun k => if k.1 then Value.ref (dxOf K a k.2) else Value.none
theorem funV_of {K : PySem.W.Frag} {a : Addr} {name qual : Str} {st : Stmt} {ks : List Bool} (e : fnI K a = fnV name qual st []) (c : fnDB K a qual ks = true) :
    FunV K name qual st (.ref (dtOf K a)) a (fdOf K a) ∧ (∃ o m, K.lookup (dtOf K a) = some o ∧ o.data = .seq (dvals K a ks).toArray m) ∧ ∀ k ∈ ks.zipIdx, k.1 = true → tup0B K (dxOf K a k.2) = true := by
  obtain ⟨oc, od, dV, kV, doc, pm, an, cdv, ct, osl, cs, hcs, ef, lk⟩ := fnI_ex e
  obtain ⟨c1, c2⟩ := Bool.and_eq_true_iff.mp c
  obtain ⟨c2, c3⟩ := Bool.and_eq_true_iff.mp c2
  obtain ⟨c3, c4⟩ := Bool.and_eq_true_iff.mp c3
  obtain ⟨c4, c5⟩ := Bool.and_eq_true_iff.mp c4
  cases cs with
  | cons x l => simp at hcs
  | nil =>
    rw [ef] at c2
    have hd : dV = .ref (dtOf K a) := by
      unfold hasDfl at c3
      unfold dtOf
      rw [ef] at c3 ⊢
      cases dV <;> first | rfl | cases c3
    subst hd
    refine ⟨⟨⟨oc, od, kV, doc, pm, an, cdv, ct, osl, ef, lk, c2⟩, c1⟩, ?_, fun k hk hb => ?_⟩
    · unfold dvB at c4
      cases q : K.lookup (dtOf K a) with
      | none =>
        rw [q] at c4
        cases c4
      | some o =>
        obtain ⟨oc, od, dt, osl⟩ := o
        rw [q] at c4
        cases dt with
        | seq its n =>
          have c4 : its.toList = dvals K a ks := of_decide_eq_true c4
          exact ⟨_, n, rfl, by rw [← c4, Array.toArray_toList]⟩
        | _ => cases c4
    · have := List.all_eq_true.mp c5 k hk
      rw [hb] at this
      exact this
theorem FunV.bindsD {K : PySem.W.Frag} {x qual : Str} {st : Stmt} {T f : Addr} {fd : FuncData} {o : Obj} {its : List Value} {m n j : Nat} {ps : List Str} (F : FunV K x qual st (.ref T) f fd) (lT : K.lookup T = some o) (oT : o.data = .seq its.toArray m) (hn : n + (its.length - j) = ps.length)
    (h : ∀ (kV doc pm : Value) (an : Option Addr) (cdv ct : Value) (us : List Value), us.length = n → ∃ k, bindArgs (PySem.W.fnOf x qual (defArgs st) (defBody st) (defScope st) (.ref T) kV doc pm an cdv ct) ⟨us, []⟩ = seqItems? (.ref T) >>= k ∧ k (some its.toArray) = pure (ps.zip (us ++ its.drop j))) : Binds K fd ps (its.drop j) := by
  obtain ⟨oc, od, kV, doc, pm, an, cdv, ct, osl, rfl, lk, hcd⟩ := F.ex
  exact Mo.bindsD lT oT hn (h kV doc pm an cdv ct)
/-! ### methods that say super -/
theorem sfun_of {P : Program} {K : PySem.W.Frag} {a D : Addr} {name qual : Str} {st : Stmt} (e : fnI K a = fnV name qual st ["__class__"]) (c : sfnB P K a D qual = true) (top : (P.main.scope.names.lookup ("super" : Str)).isSome = false) (opq : PySem.W.nsIn K cStatics "thirdparty.any" = some none) :
    SFun P K name qual st a (fdOf K a) (cellOf K a) D := by
  obtain ⟨oc, od, dV, kV, doc, pm, an, cdv, ct, osl, cs, hcs, ef, lk⟩ := fnI_ex e
  obtain ⟨c1, c2⟩ := Bool.and_eq_true_iff.mp c
  obtain ⟨c2, c3⟩ := Bool.and_eq_true_iff.mp c2
  obtain ⟨c3, c4⟩ := Bool.and_eq_true_iff.mp c3
  obtain ⟨c4, c5⟩ := Bool.and_eq_true_iff.mp c4
  obtain ⟨cc, ecs⟩ : ∃ cc, cs = [(("__class__" : Str), cc)] := by
    cases cs with
    | nil => simp at hcs
    | cons y l =>
      cases l with
      | nil =>
        obtain ⟨y1, y2⟩ := y
        have : [y1] = [("__class__" : Str)] := hcs
        injection this with this
        subst this
        exact ⟨y2, rfl⟩
      | cons z l =>
        have := congrArg List.length hcs
        simp at this
  subst ecs
  · 
    have ec : cellOf K a = cc := by
      unfold cellOf
      rw [ef]
    rw [ec] at c4 ⊢
    rw [ef] at c2 c3
    have c2 : PySem.W.codeIn K cdv qual = true := c2
    have c3 : fileB P K cdv = true := c3
    cases cdv with
    | ref cda =>
      unfold fileB at c3
      dsimp only at c3
      cases q : K.lookup cda with
      | none =>
        rw [q] at c3
        cases c3
      | some o =>
        obtain ⟨o1, o2, dt, o4⟩ := o
        rw [q] at c3
        cases dt with
        | fields vs =>
          have c3 : (match ((vs : Array Value)[2]? : Option Value) with
            | some (.str file _) => ((P.main.file : Str) == file)
            | _ => false) = true := c3
          cases q2 : vs[2]? with
          | none =>
            rw [q2] at c3
            cases c3
          | some z =>
            rw [q2] at c3
            cases z with
            | str file tf =>
              refine ⟨⟨oc, od, dV, kV, doc, pm, an, cda, ct, osl, ef, lk, c2, _, vs, file, tf, q, rfl, q2, c3⟩, ?_, Option.isSome_iff_exists.mp c5, top, opq⟩
              unfold cellB at c4
              cases q3 : K.lookup cc with
              | none =>
                rw [q3] at c4
                cases c4
              | some oC =>
                obtain ⟨p1, p2, pd, p4⟩ := oC
                rw [q3] at c4
                cases pd with
                | cell z =>
                  cases z with
                  | none => cases c4
                  | some y =>
                    cases y with
                    | ref d =>
                      have : d = D := of_decide_eq_true c4
                      subst this
                      exact ⟨_, rfl, rfl⟩
                    | _ => cases c4
                | _ => cases c4
            | _ => cases c3
        | _ => cases c3
    | _ => cases c2
/-- such a method without defaults -/
def SFunN (K : PySem.W.Frag) (x qual : Str) (st : Stmt) (fd : FuncData) (cc : Addr) : Prop := ∃ (kV doc pm : Value) (an : Option Addr) (cdv ct : Value), fd = PySem.W.ksFn x qual (defArgs st) (defBody st) (defScope st) .none kV doc pm an cdv ct cc
theorem sfunN_of {P : Program} {K : PySem.W.Frag} {x qual : Str} {st : Stmt} {a cc D : Addr} (F : SFun P K x qual st a (fdOf K a) cc D) (c : noDfl K a = true) : SFunN K x qual st (fdOf K a) cc := by
  obtain ⟨oc, od, dV, kV, doc, pm, an, cda, ct, osl, ef, lk, hcd, _⟩ := F.ex
  have hd : dV = .none := by
    unfold noDfl at c
    rw [ef] at c
    cases dV <;> first | rfl | cases c
  subst hd
  exact ⟨kV, doc, pm, an, _, ct, ef⟩
theorem SFunN.binds {K : PySem.W.Frag} {x qual : Str} {st : Stmt} {cc : Addr} {fd : FuncData} {ps : List Str} (F : SFunN K x qual st fd cc)
    (h : ∀ (kV doc pm : Value) (an : Option Addr) (cdv ct : Value) (us : List Value), us.length = ps.length → bindArgs (PySem.W.ksFn x qual (defArgs st) (defBody st) (defScope st) .none kV doc pm an cdv ct cc) ⟨us, []⟩ = pure (ps.zip us)) : Binds K fd ps [] := by
  obtain ⟨kV, doc, pm, an, cdv, ct, rfl⟩ := F
  exact .all (h kV doc pm an cdv ct)
theorem SFunN.kbn {K : PySem.W.Frag} {x qual : Str} {st : Stmt} {cc : Addr} {fd : FuncData} {ps ks : List Str} {g : {α : Type} → List α → List α → List α} (F : SFunN K x qual st fd cc)
    (h : ∀ (kV doc pm : Value) (an : Option Addr) (cdv ct : Value) (us ws : List Value), us.length = 1 → ws.length = ks.length → bindArgs (PySem.W.ksFn x qual (defArgs st) (defBody st) (defScope st) .none kV doc pm an cdv ct cc) ⟨us, ks.zip ws⟩ = pure (ps.zip (g us ws)))
    (rel : ∀ {vs : List V} {us : List Value} {zs : List V} {ws : List Value}, Vals vs us → Vals zs ws → Vals (g vs zs) (g us ws)) : KBn K fd ps 1 ks g g := by
  obtain ⟨kV, doc, pm, an, cdv, ct, rfl⟩ := F
  exact ⟨fun s us ws _ h1 h2 => .of_eq (h kV doc pm an cdv ct us ws h1 h2), rel⟩
theorem Fun.kbn {K : PySem.W.Frag} {x qual : Str} {st : Stmt} {f : Addr} {fd : FuncData} {ps ks : List Str} {g : {α : Type} → List α → List α → List α} (F : Fun K x qual st f fd)
    (h : ∀ (kV doc pm : Value) (an : Option Addr) (cdv ct : Value) (us ws : List Value), us.length = 1 → ws.length = ks.length → bindArgs (PySem.W.fnOf x qual (defArgs st) (defBody st) (defScope st) .none kV doc pm an cdv ct) ⟨us, ks.zip ws⟩ = pure (ps.zip (g us ws)))
    (rel : ∀ {vs : List V} {us : List Value} {zs : List V} {ws : List Value}, Vals vs us → Vals zs ws → Vals (g vs zs) (g us ws)) : KBn K fd ps 1 ks g g := by
  obtain ⟨oc, od, kV, doc, pm, an, cdv, ct, osl, rfl, lk, hcd⟩ := F.ex
  exact ⟨fun s us ws _ h1 h2 => .of_eq (h kV doc pm an cdv ct us ws h1 h2), rel⟩
/-! ### constants, properties -/
theorem prop_of {K : PySem.W.Frag} {C p : Addr} {f : Str} (a : PySem.W.findIn K (.ref C) f = some (some (.ref p))) (c : prB K p = true) : PropOf K C f p (pgOf K p) := by
  obtain ⟨c1, c2⟩ := Bool.and_eq_true_iff.mp c
  obtain ⟨c2, c3⟩ := Bool.and_eq_true_iff.mp c2
  refine ⟨a, of_decide_eq_true c1, of_decide_eq_true c2, ?_⟩
  unfold pgOf
  cases q : PySem.W.recIn K p "property" with
  | none =>
    rw [q] at c3
    cases c3
  | some l =>
    rw [q] at c3
    cases l with
    | nil => cases c3
    | cons y r =>
      cases y with
      | ref g => exact ⟨r, rfl⟩
      | _ => cases c3
theorem tupS_ok {K : PySem.W.Frag} {x : Str} {ws : List Str} (h : tupSB K x ws = true) (H : Hp) : SqT K H (He.ga K x) (ws.map V.str) := by
  have := He.tupB_ok h H
  rw [List.map_map] at this
  exact this
/-! ### the hook -/
def asM (g : Addr → Option Obj) : Nat → List Addr
  | 0 => [mainGlobals, cStatics]
  | n + 1 => He.growD g (asM g n)
def asS (g : Addr → Option Obj) (n : Nat) : List Addr := sysModules :: asM g n
def hookM (n : Nat) (chk : PySem.W.Frag → List Bool) (fns : PySem.W.Frag → List FnI) (vals : List FnI) : PySem.W.Hook where
  α := Bool × List FnI
  obs := fun s => ((chk (He.frG s.heap.get? (asS s.heap.get? n))).all id, fns (He.frG s.heap.get? (asS s.heap.get? n)))
  val := fun _ => (true, vals)
  says := fun _ h => ∃ K : PySem.W.Frag, K.In h ∧ (chk K).all id = true ∧ fns K = vals
  of := fun _ _ e => ⟨_, He.frG_in, congrArg (fun z : Bool × List FnI => z.1) e, congrArg (fun z : Bool × List FnI => z.2) e⟩
  keeps := fun _ _ _ ⟨K, hK, c⟩ k => ⟨K, PySem.W.Frag.In.keeps hK k, c⟩
def obM (n : Nat) (chk : PySem.W.Frag → List Bool) (fns : PySem.W.Frag → List FnI) (g : Addr → Option Obj) : Bool × List FnI := ((chk (He.frG g (asS g n))).all id, fns (He.frG g (asS g n)))
theorem obM_eq {n : Nat} {chk : PySem.W.Frag → List Bool} {fns : PySem.W.Frag → List FnI} {vals : List FnI} {g : Addr → Option Obj} {s : Shared} (h : ∀ a, g a = s.heap.get? a) : obM n chk fns g = (hookM n chk fns vals).obs s := by
  have e : g = s.heap.get? := funext h
  rw [e] <;> rfl
theorem pick {l : List Bool} (c : l.all id = true) (i : Nat) {b : Bool} (h : l[i]? = some b := by rfl) : b = true := List.all_eq_true.mp c b (List.mem_of_getElem? h)
theorem pickD {l : List Bool} (c : l.all id = true) (i : Nat) {p : Prop} [d : Decidable p] (h : l[i]? = some (decide p) := by rfl) : p := of_decide_eq_true (pick c i h)
theorem pickF {l m : List FnI} (e : l = m) (i : Nat) {a b : FnI} (h1 : l[i]? = some a := by rfl) (h2 : m[i]? = some b := by rfl) : a = b := by
  rw [e, h2] at h1
  exact (Option.some.inj h1).symm
/-- the law's end, the written part found by the hook -/
theorem walk_M {l : PySem.W.OpenLaw} {n k : Nat} {q : Program} {loose : List Str} {XP : (Str → Option Value) → Heap → Prop} {YP : World → Heap → Prop} {d : DefRec} {x : Str}
    (hn : l.most = some n) (hn2 : n ≤ sizeLine) (hdf : d.params.defaults = []) (hr : Room k callerA)
    (F : ∀ (w : World) (mg : Str → Option Value) (fa : Addr) (h : Heap), YP w h → h.Ns mainGlobals mg → mg d.name = some (.ref fa) →
      ∃ (K : PySem.W.Frag) (fd : FuncData) (sp : Sp), K.In h ∧ (∀ (s : Shared) (u : Value), BindsTo s fd ⟨[u], []⟩ [(x, u)]) ∧
        (∀ (H : Hp) (a : Addr) (ns : List Int), ns.length ≤ n → (∀ z ∈ ns, Builtin.Int.intBits z ≤ 1048576) → Only H → SqL K H a (ns.map V.int) → sp [.ref a] H (fun v _ => v = .bl true) fun _ _ _ => False) ∧
        ∀ base : Heap, K.In base → base.Ns mainGlobals mg → FnG l.prog w K mg base CX0 k fa fd [x] sp) :
    PySem.W.WalkO q loose XP YP l.row.toRowW d [] (fun f vs => PySem.call f vs) := by
  apply Att.attach_callB hn hdf
  intro w s0 s1 mg mb fa o pm cd doc a vs ns G Y _ _ _ hmg hobj hints hlen hbits hg
  obtain ⟨K, fd, sp, KX, hb, hsp, hF⟩ := F w mg fa _ Y G.T.g hmg
  exact law_callG KX G.T.g G.T.b G.T.builtins G.T.nolimit hg hobj hints (Nat.le_trans hlen hn2) hr hF hb fun H hO hS => hsp H a ns hlen hbits hO hS
end Mo
namespace Mo
open PySem PySem.Spec PyProof.Rows L2
/-! ### constants of classes -/
theorem con_of {K : PySem.W.Frag} {C : Addr} {f z : Str} (h : conB K C f z = true) (cp : PySem.W.copiedNames.contains f = false) : ∃ u, Con K C f (.str z) u := by
  unfold conB at h
  cases q : PySem.W.findIn K (.ref C) f with
  | none =>
    rw [q] at h
    cases h
  | some o =>
    rw [q] at h
    cases o with
    | none => cases h
    | some v =>
      cases v with
      | str y t =>
        obtain ⟨h1, h2⟩ := Bool.and_eq_true_iff.mp (show (decide (y = z) && decide (PySem.W.specialIn K (.str y t) "__get__" = some none)) = true from h)
        have h1 := of_decide_eq_true h1
        subst h1
        exact ⟨_, q, ⟨t, rfl⟩, of_decide_eq_true h2, cp⟩
      | _ => cases h
theorem cval_of {K : PySem.W.Frag} {C : Addr} {f z : Str} (h : cvalB K C f z = true) : ∃ u, ClX.CVal K C (.type "type") f (.str z) u := by
  unfold cvalB at h
  cases q : PySem.W.findCls K (.ref C) (.type "type") f with
  | none =>
    rw [q] at h
    cases h
  | some o =>
    rw [q] at h
    cases o with
    | val v =>
      cases v with
      | str y t =>
        have h1 : y = z := of_decide_eq_true h
        subst h1
        exact ⟨_, q, ⟨t, rfl⟩⟩
      | _ => cases h
    | _ => cases h
/-! ### defaults of methods that say super -/
/-- such a method, its defaults' place known -/
def SFunD (P : Program) (K : PySem.W.Frag) (x qual : Str) (st : Stmt) (T f : Addr) (fd : FuncData) (cc : Addr) : Prop := ∃ (kV doc pm : Value) (an : Option Addr) (cdv ct : Value), fd = PySem.W.ksFn x qual (defArgs st) (defBody st) (defScope st) (.ref T) kV doc pm an cdv ct cc
theorem sdfl_of {P : Program} {K : PySem.W.Frag} {x qual : Str} {st : Stmt} {a cc D : Addr} {ks : List Bool} (F : SFun P K x qual st a (fdOf K a) cc D) (c : sdflB K a ks = true) :
    SFunD P K x qual st (dtOf K a) a (fdOf K a) cc ∧ (∃ o m, K.lookup (dtOf K a) = some o ∧ o.data = .seq (dvals K a ks).toArray m) ∧ ∀ k ∈ ks.zipIdx, k.1 = true → tup0B K (dxOf K a k.2) = true := by
  obtain ⟨oc, od, dV, kV, doc, pm, an, cda, ct, osl, ef, lk, hcd, _⟩ := F.ex
  obtain ⟨c3, c4⟩ := Bool.and_eq_true_iff.mp c
  obtain ⟨c4, c5⟩ := Bool.and_eq_true_iff.mp c4
  have hd : dV = .ref (dtOf K a) := by
    unfold hasDfl at c3
    unfold dtOf
    rw [ef] at c3 ⊢
    cases dV <;> first | rfl | cases c3
  subst hd
  refine ⟨⟨kV, doc, pm, an, _, ct, ef⟩, ?_, fun k hk hb => ?_⟩
  · unfold dvB at c4
    cases q : K.lookup (dtOf K a) with
    | none =>
      rw [q] at c4
      cases c4
    | some o =>
      obtain ⟨oc, od, dt, osl⟩ := o
      rw [q] at c4
      cases dt with
      | seq its n =>
        have c4 : its.toList = dvals K a ks := of_decide_eq_true c4
        exact ⟨_, n, rfl, by rw [← c4, Array.toArray_toList]⟩
      | _ => cases c4
  · have := List.all_eq_true.mp c5 k hk
    rw [hb] at this
    exact this
theorem SFunD.kbn {P : Program} {K : PySem.W.Frag} {x qual : Str} {st : Stmt} {T f cc : Addr} {fd : FuncData} {ps ks : List Str} {g : {α : Type} → List α → List α → List α} {o : Obj} {its : List Value} {m : Nat} (F : SFunD P K x qual st T f fd cc) (lT : K.lookup T = some o) (oT : o.data = .seq its.toArray m)
    (h : ∀ (kV doc pm : Value) (an : Option Addr) (cdv ct : Value) (us ws : List Value), us.length = 1 → ws.length = ks.length → ∃ k, bindArgs (PySem.W.ksFn x qual (defArgs st) (defBody st) (defScope st) (.ref T) kV doc pm an cdv ct cc) ⟨us, ks.zip ws⟩ = seqItems? (.ref T) >>= k ∧ k (some its.toArray) = pure (ps.zip (g us ws)))
    (rel : ∀ {vs : List V} {us : List Value} {zs : List V} {ws : List Value}, Vals vs us → Vals zs ws → Vals (g vs zs) (g us ws)) : KBn K fd ps 1 ks g g := by
  obtain ⟨kV, doc, pm, an, cdv, ct, rfl⟩ := F
  refine ⟨fun s us ws X h1 h2 => BindsTo.of_looks fun M => ?_, rel⟩
  obtain ⟨k, e1, e2⟩ := h kV doc pm an cdv ct us ws h1 h2
  rw [e1]
  exact looks_items X lT oT (.of_pure e2)
theorem SFun.bindsD {P : Program} {K : PySem.W.Frag} {x qual : Str} {st : Stmt} {T f cc : Addr} {fd : FuncData} {o : Obj} {its : List Value} {m n j : Nat} {ps : List Str} (F : SFunD P K x qual st T f fd cc) (lT : K.lookup T = some o) (oT : o.data = .seq its.toArray m) (hn : n + (its.length - j) = ps.length)
    (h : ∀ (kV doc pm : Value) (an : Option Addr) (cdv ct : Value) (us : List Value), us.length = n → ∃ k, bindArgs (PySem.W.ksFn x qual (defArgs st) (defBody st) (defScope st) (.ref T) kV doc pm an cdv ct cc) ⟨us, []⟩ = seqItems? (.ref T) >>= k ∧ k (some its.toArray) = pure (ps.zip (us ++ its.drop j))) : Binds K fd ps (its.drop j) := by
  obtain ⟨kV, doc, pm, an, cdv, ct, rfl⟩ := F
  exact Mo.bindsD lT oT hn (h kV doc pm an cdv ct)
end Mo
set_option Elab.async false
set_option linter.all false
set_option maxRecDepth 100000
set_option maxHeartbeats 4000000
/-! a list or a tuple, walked; promises that ask what cannot be -/
namespace Mo
open PySem PySem.Spec PyProof.Rows L2
/-- a list or a tuple of xs at a -/
def Sq (K : PySem.W.Frag) (H : Hp) (a : Addr) (xs : List V) : Prop := SqL K H a xs ∨ SqT K H a xs
theorem Sq.same {K : PySem.W.Frag} {H H' : Hp} {a : Addr} {xs : List V} (h : Sq K H a xs) (e : Same H H') : Sq K H' a xs := by
  rcases h with h | (h | ⟨o, h⟩) | h
  · exact .inl (e.seq h)
  · exact .inr (.inl (.inl (e _ _ h)))
  · exact .inr (.inl (.inr ⟨o, e _ _ h⟩))
  · exact .inr (.inr h)
section
variable {X : Cx} {tg : Expr}
def iSeq (K : PySem.W.Frag) (tl : TE) : TI := fun σ H R => tl σ H fun x H1 => ∃ a, x = .ref a ∧ (((∃ xs, SqL K H1 a xs) ∧ R (Itl K a) H1) ∨ ((∃ xs, SqT K H1 a xs) ∧ R (Itt K a) H1))
theorem pi_seq {l : Expr} {tl : TE} (hl : PE X l tl) : PI X tg l (iSeq X.K tl) := by
  refine ⟨fun pins s σ H R I h => ?_⟩
  refine thn (hl.run pins s σ H _ I h) fun v s1 ⟨x, H1, I1, r1, q1⟩ => ?_
  obtain ⟨a, e, q1⟩ := q1
  subst e
  cases r1
  rcases q1 with ⟨⟨xs, hq⟩, q⟩ | ⟨⟨xs, hq⟩, q⟩
  · obtain ⟨its, rv, p, hz⟩ := I1.list hq
    refine wpAny_pyIter_list p.isList ?_
    refine ⟨s1.heap.objs.size, [s1.heap.objs.size], _, _, H1, rfl, I1.kept (t' := s1.toks) fun b o e => Heap.get?_push_of_some _ e, turn_list a _, ⟨_, Heap.get?_push_size _ rfl, rfl, rfl⟩, fun b hb => ?_, q⟩
    have e : b = s1.heap.objs.size := by simpa using hb
    subst e
    exact I1.fpOk (Nat.le_refl _) (I1.hok.fresh (Nat.le_refl _))
  · obtain ⟨its, rv, p, hz⟩ := I1.tuple hq
    refine wpAny_pyIter_tuple (show s1.heap.IsTuple a its.toArray from p) ?_
    refine ⟨s1.heap.objs.size, [s1.heap.objs.size], _, _, H1, rfl, I1.kept (t' := s1.toks) fun b o e => Heap.get?_push_of_some _ e, turn_tuple a _, ⟨_, Heap.get?_push_size _ rfl, rfl, rfl⟩, fun b hb => ?_, q⟩
    have e : b = s1.heap.objs.size := by simpa using hb
    subst e
    exact I1.fpOk (Nat.le_refl _) (I1.hok.fresh (Nat.le_refl _))
end
/-- a for over a list or a tuple -/
theorem for_seq {K : PySem.W.Frag} {a : Addr} {xs : List V} {g : TG} {tb : TS} {D : Ends} {σ : L2.St} {H : Hp} (hs : Sq K H a xs) (Pv : Nat → L2.St → Hp → Prop) (h0 : Pv 0 σ H) (hk : ∀ i σ H', Pv i σ H' → Same H H')
    (ht : ∀ i x σ H, xs[i]? = some x → Pv i σ H → g x σ H fun σ2 H2 => tb { D with nx := Pv (i + 1), ct := Pv (i + 1), bk := D.nx } σ2 H2) (hd : ∀ σ H, Pv xs.length σ H → D.nx σ H) :
    ((∃ xs, SqL K H a xs) ∧ (fun (J : It) H => ∃ W : Nat → Nat → L2.St → Hp → Prop, (∃ m, W 0 m σ H) ∧ ∀ i m σ H, W i m σ H →
      (J.stop i H ∧ D.nx σ H) ∨ (J.go i H ∧ ∃ N : L2.St → Hp → Prop, (∀ σ' H', N σ' H' → ∃ m', m' < m ∧ W (i + 1) m' σ' H') ∧ ∀ x H', J.yld i H x H' → g x σ H' fun σ2 H2 => tb { D with nx := N, ct := N, bk := D.nx } σ2 H2)) (Itl K a) H) ∨
    ((∃ xs, SqT K H a xs) ∧ (fun (J : It) H => ∃ W : Nat → Nat → L2.St → Hp → Prop, (∃ m, W 0 m σ H) ∧ ∀ i m σ H, W i m σ H →
      (J.stop i H ∧ D.nx σ H) ∨ (J.go i H ∧ ∃ N : L2.St → Hp → Prop, (∀ σ' H', N σ' H' → ∃ m', m' < m ∧ W (i + 1) m' σ' H') ∧ ∀ x H', J.yld i H x H' → g x σ H' fun σ2 H2 => tb { D with nx := N, ct := N, bk := D.nx } σ2 H2)) (Itt K a) H) := by
  rcases hs with h | h
  · refine .inl ⟨⟨xs, h⟩, for_it walk_list Pv h0 (fun i σ H' _ p => (hk i σ H' p).seq h) (fun i x σ H1 H2 _ p y => ?_) hd⟩
    obtain ⟨rfl, y⟩ := y
    exact ht i x σ H2 y p
  · refine .inr ⟨⟨xs, h⟩, for_it walk_tup Pv h0 (fun i σ H' _ p => ?_) (fun i x σ H1 H2 _ p y => ?_) hd⟩
    · have e := hk i σ H' p
      rcases h with (h | ⟨o, h⟩) | h
      · exact .inl (.inl (e _ _ h))
      · exact .inl (.inr ⟨o, e _ _ h⟩)
      · exact .inr h
    · obtain ⟨rfl, y⟩ := y
      exact ht i x σ H2 y p
/-- a comprehension over a list or a tuple -/
theorem lc_seq {K : PySem.W.Frag} {a : Addr} {xs : List V} {g : TG} {tt : TT} {te : TE} {vs : List Nat} {σ : L2.St} {H1 : Hp} {Qr : Addr → Hp → Prop} (hs : Sq K H1 a xs) (Pv : Addr → Nat → Hp → Prop) (h0 : ∀ D, H1 D = none → Pv D 0 (upd H1 D (.lst []))) (hk : ∀ D i H', Pv D i H' → Same H1 H')
    (ht : ∀ D i x H, H1 D = none → xs[i]? = some x → Pv D i H → g x (wipe σ vs) H fun σ2 H2 => wipe σ2 vs = wipe σ vs ∧ tt σ2 H2 fun b H3 =>
      if b = true then te σ2 H3 fun y H4 => ∃ acc, H4 D = some (.lst acc) ∧ acc.length < sizeLine ∧ Pv D (i + 1) (upd H4 D (.lst (acc ++ [y]))) else Pv D (i + 1) H3) (hd : ∀ D H, H1 D = none → Pv D xs.length H → Qr D H) :
    ((∃ xs, SqL K H1 a xs) ∧ (fun (J : It) H1 => ∀ D, H1 D = none → ∃ W : Nat → Nat → Hp → Prop, (∃ m, W 0 m (upd H1 D (.lst []))) ∧ ∀ i m H, W i m H →
      (J.stop i H ∧ Qr D H) ∨ (J.go i H ∧ ∃ Nx : Hp → Prop, (∀ H', Nx H' → ∃ m', m' < m ∧ W (i + 1) m' H') ∧ ∀ x H', J.yld i H x H' → g x (wipe σ vs) H' fun σ2 H2 => wipe σ2 vs = wipe σ vs ∧ tt σ2 H2 fun b H3 =>
        if b = true then te σ2 H3 fun y H4 => ∃ acc, H4 D = some (.lst acc) ∧ acc.length < sizeLine ∧ Nx (upd H4 D (.lst (acc ++ [y]))) else Nx H3)) (Itl K a) H1) ∨
    ((∃ xs, SqT K H1 a xs) ∧ (fun (J : It) H1 => ∀ D, H1 D = none → ∃ W : Nat → Nat → Hp → Prop, (∃ m, W 0 m (upd H1 D (.lst []))) ∧ ∀ i m H, W i m H →
      (J.stop i H ∧ Qr D H) ∨ (J.go i H ∧ ∃ Nx : Hp → Prop, (∀ H', Nx H' → ∃ m', m' < m ∧ W (i + 1) m' H') ∧ ∀ x H', J.yld i H x H' → g x (wipe σ vs) H' fun σ2 H2 => wipe σ2 vs = wipe σ vs ∧ tt σ2 H2 fun b H3 =>
        if b = true then te σ2 H3 fun y H4 => ∃ acc, H4 D = some (.lst acc) ∧ acc.length < sizeLine ∧ Nx (upd H4 D (.lst (acc ++ [y]))) else Nx H3)) (Itt K a) H1) := by
  rcases hs with h | h
  · refine .inl ⟨⟨xs, h⟩, fun D hD => lc_it walk_list (g := g) (tt := tt) (te := te) (Pv D) (h0 D hD) (fun i H' _ p => (hk D i H' p).seq h) (fun i x H1 H2 _ p y => ?_) (fun H => hd D H hD)⟩
    obtain ⟨rfl, y⟩ := y
    exact ht D i x H2 hD y p
  · refine .inr ⟨⟨xs, h⟩, fun D hD => lc_it walk_tup (g := g) (tt := tt) (te := te) (Pv D) (h0 D hD) (fun i H' _ p => ?_) (fun i x H1 H2 _ p y => ?_) (fun H => hd D H hD)⟩
    · have e := hk D i H' p
      rcases h with (h | ⟨o, h⟩) | h
      · exact .inl (.inl (e _ _ h))
      · exact .inl (.inr ⟨o, e _ _ h⟩)
      · exact .inr h
    · obtain ⟨rfl, y⟩ := y
      exact ht D i x H2 hD y p
/-- a promise that is never asked -/
theorem FnOk.vac {P : Program} {w : World} {K : PySem.W.Frag} {mg : Str → Option Value} {base : Heap} {CX : CXT} {k : Nat} {f : Addr} {fd : FuncData} {ps : List Str} {sp : Sp} (h : ∀ vs H Q E, ¬ sp vs H Q E) : FnOk P w K mg base CX k f fd ps sp :=
  ⟨fun vs H Q E z => (h vs H Q E z).elim, fun A outer s H args us vs Q E hr e b v z => (h vs H Q E z).elim⟩
end Mo
namespace MoEq
open PySem PySem.W PySem.Calls PyProof.Rows GQ
open AutoSeq1 (wpAny_loadPart')
section
variable {prog : Program} {w : World} {A : Around} {R : Result → Shared → Prop}
theorem tuple_eqE (l b : Addr) (items : Array Value) (n n2 : Nat) (dd dd2 : Option Addr) (sl sl2 : Array (Option Value)) {s : Shared} (hl1 : s.heap.get? l = some { cls := .type "tuple", dict := dd, data := .seq items n, slots := sl }) (hb1 : s.heap.get? b = some { cls := .type "tuple", dict := dd2, data := .seq #[] n2, slots := sl2 })
    (h : R (.ok (.ret (.bool (decide (items.size = 0))))) s) :
    wpAny (model prog w) A.in1 (Builtin.«tuple.__eq__» ⟨[.ref l, .ref b], []⟩) (FinOf prog w A R) (fun e s' => R (.error e) s') s := by
  have f2 := AutoSeq1.sub_tuple_tuple
  have h0 := h
  obtain ⟨s0, es⟩ : ∃ s0, s0 = s := ⟨_, rfl⟩
  obtain ⟨hp, g, d, tk, os⟩ := s
  wp_walk using wpAny_loadPart' hl1, wpAny_loadPart' hb1, wpAny_forIn_list _ (fun rest b s' => b.1 = none ∧ rest = [] ∧ s' = s0) _
  case turn =>
    rintro ⟨y, x⟩ rest b s' ⟨hb', hz, _⟩
    cases hz
  case fin =>
    rintro ⟨b1, b2⟩ s' ⟨hb', hz, hs⟩
    simp only at hb'
    subst hb'
    subst hs
    subst es
    wp_walk
    have e : (items.size == 0) = decide (items.size = 0) := by
      rw [Bool.eq_iff_iff]
      simp
    simpa [Builtin.Tuple.tupleCompareSizes, e] using h0
  case h =>
    exact ⟨rfl, by simp, es.symm⟩
end
section
variable {prog : Program} {w : World} {A : Around} {E : Value → Shared → Prop} {s : Shared}
theorem rc_tupE {l b : Addr} {items : Array Value} {Q : Value → Shared → Prop} (hu : A.units < cLine) (hl : s.heap.IsTuple l items) (hb : s.heap.IsTuple b #[]) (h : Q (.bool (decide (items.size = 0))) s) : wpAny (model prog w) A (richCompare .Eq (.ref l) (.ref b)) Q E s := by
  obtain ⟨⟨cls, dd, data, sl⟩, ho, hc, n, hd⟩ := id hl
  obtain ⟨⟨cls2, dd2, data2, sl2⟩, ho2, hc2, n2, hd2⟩ := id hb
  simp only at hc hd hc2 hd2
  subst hc hd hc2 hd2
  refine wpAny_richCompare_same_room (op := .Eq) ⟨_, ho, rfl⟩ ⟨_, ho2, rfl⟩ PySem.F.slot_tuple_eq (call_here PySem.F.slot_tuple_eq ⟨_, ho, rfl⟩ PySem.F.entry_tuple_eq (PySem.F.args_tuple_eq_2 _ _) ?_) hu
  exact tuple_eqE (R := wants (fun v s' => v ≠ .notImplemented ∧ Q v s') E) l b items n n2 dd dd2 sl sl2 ho ho2 ⟨(fun x => nomatch x), h⟩
end
end MoEq
namespace Mo
open PySem PySem.Spec PyProof.Rows L2
/-- t == (): whether the tuple is empty -/
def rEqE (K : PySem.W.Frag) : R2 := fun x y H Q => ∃ a b xs, x = .ref a ∧ y = .ref b ∧ SqT K H a xs ∧ SqT K H b [] ∧ Q (.bl (decide (xs.length = 0))) H
theorem op_eqE {X : Cx} (hu : X.A.units < cLine) : OpR X (compareOp .Eq) (rEqE X.K) := by
  intro pins s σ H x y v u Q I rx ry h
  obtain ⟨a, b, xs, rfl, rfl, ha, hb, q⟩ := h
  cases rx
  cases ry
  obtain ⟨its, r1, p1, _⟩ := I.tuple ha
  obtain ⟨its2, r2, p2, _⟩ := I.tuple hb
  cases r2
  have e : decide (its.toArray.size = 0) = decide (xs.length = 0) := by rw [List.size_toArray, r1.length]
  show wpAny (model X.prog X.w) X.A (richCompare .Eq (.ref a) (.ref b)) (EP X pins σ Q) X.xe s
  refine MoEq.rc_tupE hu p1 p2 ?_
  rw [e]
  exact ⟨.bl _, H, I, rfl, q⟩
theorem sqt_ty {K : PySem.W.Frag} {H : Hp} {p : Addr} {xs : List V} (h : SqT K H p xs) : TyX K H (.ref p) (.type "tuple") := by
  rcases h with (h | ⟨o, h⟩) | ⟨o, its, n, h, hc, _⟩
  · exact .base (.tup h)
  · exact .fTuple h
  · exact .kTuple h hc
end Mo
set_option Elab.async false
set_option linter.all false
set_option maxRecDepth 100000
set_option maxHeartbeats 4000000
/-! what the globals reach, each address once: the addresses met are kept as the bits of a number -/
namespace Mo
open PySem PySem.Spec PyProof.Rows L2
theorem obB_eq {n : Nat} {chk : PySem.W.Frag → List Bool} {fns : PySem.W.Frag → List FnI} {vals : List FnI} {g : Addr → Option Obj} {s : Shared} (h : ∀ a, g a = s.heap.get? a) : obB n chk fns g = (hookB n chk fns vals).obs s := by
  have e : g = s.heap.get? := funext h
  rw [e] <;> rfl
theorem run_joinB {r : PySem.W.OpenRow} {q : Program} {n M a : Nat} {chk : PySem.W.Frag → List Bool} {fns : PySem.W.Frag → List FnI} {vals : List FnI} {loose : List PySem.Str} {w : World}
    (h1 : HandSHeadRun.RunEq r q (hookB n (fun K => (chk K).take a) fns vals) (fun s => obB n (fun K => (chk K).take a) fns (HandSHeadRun.getT s)) M loose w)
    (h2 : HandSHeadRun.RunEq r q (hookB n (fun K => (chk K).drop a) fns vals) (fun s => obB n (fun K => (chk K).drop a) fns (HandSHeadRun.getT s)) M loose w) :
    HandSHeadRun.RunEq r q (hookB n chk fns vals) (fun s => obB n chk fns (HandSHeadRun.getT s)) M loose w := by
  intro os
  have z1 := h1 os
  have z2 := h2 os
  generalize HandSHeadRun.endF _ M r.prog w os = e at z1 z2 ⊢
  cases e with
  | none => cases z1
  | some s =>
    have e1 := Option.some.inj z1
    have e2 := Option.some.inj z2
    have a1 := congrArg (fun x : Bool × _ => x.1) e1
    have a2 := congrArg (fun x : Bool × _ => x.2.1) e1
    have a3 : obB n (fun K => (chk K).take a) fns (HandSHeadRun.getT s) = (true, vals) := congrArg (fun x : Bool × _ => x.2.2) e1
    have b3 : obB n (fun K => (chk K).drop a) fns (HandSHeadRun.getT s) = (true, vals) := congrArg (fun x : Bool × _ => x.2.2) e2
    have a4 : ((chk (He.frG (HandSHeadRun.getT s) (asB (HandSHeadRun.getT s) n))).take a).all id = true := congrArg Prod.fst a3
    have b4 : ((chk (He.frG (HandSHeadRun.getT s) (asB (HandSHeadRun.getT s) n))).drop a).all id = true := congrArg Prod.fst b3
    have v4 : fns (He.frG (HandSHeadRun.getT s) (asB (HandSHeadRun.getT s) n)) = vals := congrArg Prod.snd a3
    have o4 : obB n chk fns (HandSHeadRun.getT s) = (true, vals) := by
      refine Prod.ext ?_ v4
      show (chk _).all id = true
      rw [← List.take_append_drop a (chk (He.frG (HandSHeadRun.getT s) (asB (HandSHeadRun.getT s) n))), List.all_append, a4, b4]
      rfl
    exact congrArg some (Prod.ext a1 (Prod.ext a2 o4))
end Mo
set_option Elab.async false
set_option linter.all false
set_option maxRecDepth 100000
set_option maxHeartbeats 0
namespace K07HdB
open K07 PySem PySem.Spec PyProof.Rows L2 Mo
theorem ob_eq (s : PySem.W.SharedT) : ob s = hk.obs s.abs := obB_eq (HandSHeadRun.getT_eq s)
end K07HdB
set_option Elab.async false
set_option linter.all false
set_option maxRecDepth 100000
set_option maxHeartbeats 4000000
namespace K07
open PySem PySem.Spec PyProof.Rows L2 Mo
abbrev nm_is_name : List Str := ["value", "sign"]
theorem sc_is_name : FnScope nm_is_name ["value"] (defScope st_is_name) := ⟨rfl, rfl, rfl, by decide +kernel, rfl, by decide +kernel, by decide +kernel⟩
abbrev nm_is_operand : List Str := ["value"]
theorem sc_is_operand : FnScope nm_is_operand ["value"] (defScope st_is_operand) := ⟨rfl, rfl, rfl, by decide +kernel, rfl, by decide +kernel, by decide +kernel⟩
abbrev nm_check_name : List Str := ["value"]
theorem sc_check_name : FnScope nm_check_name ["value"] (defScope st_check_name) := ⟨rfl, rfl, rfl, by decide +kernel, rfl, by decide +kernel, by decide +kernel⟩
abbrev nm_check_operand : List Str := ["value"]
theorem sc_check_operand : FnScope nm_check_operand ["value"] (defScope st_check_operand) := ⟨rfl, rfl, rfl, by decide +kernel, rfl, by decide +kernel, by decide +kernel⟩
abbrev nm_coded : List Str := ["parameters", "slots", "body", "rows", "at", "row"]
theorem sc_coded : FnScope nm_coded ["parameters", "slots", "body"] (defScope st_coded) := ⟨rfl, rfl, rfl, by decide +kernel, rfl, by decide +kernel, by decide +kernel⟩
abbrev nm_coded_rows : List Str := ["names", "body", "rows", "part"]
theorem sc_coded_rows : FnScope nm_coded_rows ["names", "body"] (defScope st_coded_rows) := ⟨rfl, rfl, rfl, by decide +kernel, rfl, by decide +kernel, by decide +kernel⟩
abbrev nm_moved : List Str := ["rows", "by", "row"]
theorem sc_moved : FnScope nm_moved ["rows", "by"] (defScope st_moved) := ⟨rfl, rfl, rfl, by decide +kernel, rfl, by decide +kernel, by decide +kernel⟩
abbrev nm_rows_of : List Str := ["names", "part", "word", "first", "second", "start", "test", "inner", "behind", "row"]
theorem sc_rows_of : FnScope nm_rows_of ["names", "part"] (defScope st_rows_of) := ⟨rfl, rfl, rfl, by decide +kernel, rfl, by decide +kernel, by decide +kernel⟩
abbrev nm_parts_of_row : List Str := ["names", "part", "word"]
theorem sc_parts_of_row : FnScope nm_parts_of_row ["names", "part"] (defScope st_parts_of_row) := ⟨rfl, rfl, rfl, by decide +kernel, rfl, by decide +kernel, by decide +kernel⟩
abbrev nm_place_of : List Str := ["names", "operand"]
theorem sc_place_of : FnScope nm_place_of ["names", "operand"] (defScope st_place_of) := ⟨rfl, rfl, rfl, by decide +kernel, rfl, by decide +kernel, by decide +kernel⟩
abbrev nm_Statement___init__ : List Str := ["self", "line", "mentioned", "body", "otherwise", "inside", "amount", "level", "part"]
theorem sc_Statement___init__ : FnScope nm_Statement___init__ ["self", "line", "mentioned", "body", "otherwise"] (defScope st_Statement___init__) := ⟨rfl, rfl, rfl, by decide +kernel, rfl, by decide +kernel, by decide +kernel⟩
abbrev nm_Statement_amount : List Str := ["self"]
theorem sc_Statement_amount : FnScope nm_Statement_amount ["self"] (defScope st_Statement_amount) := ⟨rfl, rfl, rfl, by decide +kernel, rfl, by decide +kernel, by decide +kernel⟩
abbrev nm_Statement_level : List Str := ["self"]
theorem sc_Statement_level : FnScope nm_Statement_level ["self"] (defScope st_Statement_level) := ⟨rfl, rfl, rfl, by decide +kernel, rfl, by decide +kernel, by decide +kernel⟩
abbrev nm_Statement___eq__ : List Str := ["self", "other"]
theorem sc_Statement___eq__ : FnScope nm_Statement___eq__ ["self", "other"] (defScope st_Statement___eq__) := ⟨rfl, rfl, rfl, by decide +kernel, rfl, by decide +kernel, by decide +kernel⟩
abbrev nm_Statement___str__ : List Str := ["self"]
theorem sc_Statement___str__ : FnScope nm_Statement___str__ ["self"] (defScope st_Statement___str__) := ⟨rfl, rfl, rfl, by decide +kernel, rfl, by decide +kernel, by decide +kernel⟩
abbrev nm_Statement___repr__ : List Str := ["self"]
theorem sc_Statement___repr__ : FnScope nm_Statement___repr__ ["self"] (defScope st_Statement___repr__) := ⟨rfl, rfl, rfl, by decide +kernel, rfl, by decide +kernel, by decide +kernel⟩
abbrev nm_Look___init__ : List Str := ["self", "cell", "into"]
theorem ss_Look___init__ : SScope nm_Look___init__ ["self", "cell", "into"] (defScope st_Look___init__) := ⟨rfl, rfl, rfl, by decide +kernel, rfl, by decide +kernel, by decide +kernel, by decide +kernel, rfl, rfl⟩
abbrev nm_Put___init__ : List Str := ["self", "cell", "operand"]
theorem ss_Put___init__ : SScope nm_Put___init__ ["self", "cell", "operand"] (defScope st_Put___init__) := ⟨rfl, rfl, rfl, by decide +kernel, rfl, by decide +kernel, by decide +kernel, by decide +kernel, rfl, rfl⟩
abbrev nm_Swap___init__ : List Str := ["self", "cell", "operand", "into"]
theorem ss_Swap___init__ : SScope nm_Swap___init__ ["self", "cell", "operand", "into"] (defScope st_Swap___init__) := ⟨rfl, rfl, rfl, by decide +kernel, rfl, by decide +kernel, by decide +kernel, by decide +kernel, rfl, rfl⟩
abbrev nm_Try___init__ : List Str := ["self", "cell", "old", "new", "into"]
theorem ss_Try___init__ : SScope nm_Try___init__ ["self", "cell", "old", "new", "into"] (defScope st_Try___init__) := ⟨rfl, rfl, rfl, by decide +kernel, rfl, by decide +kernel, by decide +kernel, by decide +kernel, rfl, rfl⟩
abbrev nm_Let___init__ : List Str := ["self", "into", "operand"]
theorem ss_Let___init__ : SScope nm_Let___init__ ["self", "into", "operand"] (defScope st_Let___init__) := ⟨rfl, rfl, rfl, by decide +kernel, rfl, by decide +kernel, by decide +kernel, by decide +kernel, rfl, rfl⟩
abbrev nm_If___init__ : List Str := ["self", "left", "right", "body", "otherwise"]
theorem ss_If___init__ : SScope nm_If___init__ ["self", "left", "right", "body", "otherwise"] (defScope st_If___init__) := ⟨rfl, rfl, rfl, by decide +kernel, rfl, by decide +kernel, by decide +kernel, by decide +kernel, rfl, rfl⟩
abbrev nm_Loop___init__ : List Str := ["self", "body"]
theorem ss_Loop___init__ : SScope nm_Loop___init__ ["self", "body"] (defScope st_Loop___init__) := ⟨rfl, rfl, rfl, by decide +kernel, rfl, by decide +kernel, by decide +kernel, by decide +kernel, rfl, rfl⟩
abbrev nm_Leave___init__ : List Str := ["self"]
theorem ss_Leave___init__ : SScope nm_Leave___init__ ["self"] (defScope st_Leave___init__) := ⟨rfl, rfl, rfl, by decide +kernel, rfl, by decide +kernel, by decide +kernel, by decide +kernel, rfl, rfl⟩
abbrev nm_Return___init__ : List Str := ["self", "operand"]
theorem ss_Return___init__ : SScope nm_Return___init__ ["self", "operand"] (defScope st_Return___init__) := ⟨rfl, rfl, rfl, by decide +kernel, rfl, by decide +kernel, by decide +kernel, by decide +kernel, rfl, rfl⟩
abbrev nm_Joined___init__ : List Str := ["self", "body"]
theorem ss_Joined___init__ : SScope nm_Joined___init__ ["self", "body"] (defScope st_Joined___init__) := ⟨rfl, rfl, rfl, by decide +kernel, rfl, by decide +kernel, by decide +kernel, by decide +kernel, rfl, rfl⟩
abbrev nm_indented : List Str := ["body", "part", "row"]
theorem sc_indented : FnScope nm_indented ["body"] (defScope st_indented) := ⟨rfl, rfl, rfl, by decide +kernel, rfl, by decide +kernel, by decide +kernel⟩
abbrev nm_goes_together : List Str := ["part", "one"]
theorem sc_goes_together : FnScope nm_goes_together ["part"] (defScope st_goes_together) := ⟨rfl, rfl, rfl, by decide +kernel, rfl, by decide +kernel, by decide +kernel⟩
abbrev nm_check_body : List Str := ["value", "at", "part"]
theorem sc_check_body : FnScope nm_check_body ["value"] (defScope st_check_body) := ⟨rfl, rfl, rfl, by decide +kernel, rfl, by decide +kernel, by decide +kernel⟩
abbrev nm_check_joined : List Str := ["value", "at", "part"]
theorem sc_check_joined : FnScope nm_check_joined ["value"] (defScope st_check_joined) := ⟨rfl, rfl, rfl, by decide +kernel, rfl, by decide +kernel, by decide +kernel⟩
abbrev nm_all_in : List Str := ["body", "found", "part"]
theorem sc_all_in : FnScope nm_all_in ["body"] (defScope st_all_in) := ⟨rfl, rfl, rfl, by decide +kernel, rfl, by decide +kernel, by decide +kernel⟩
abbrev nm_steps_in : List Str := ["body", "part"]
theorem sc_steps_in : FnScope nm_steps_in ["body"] (defScope st_steps_in) := ⟨rfl, rfl, rfl, by decide +kernel, rfl, by decide +kernel, by decide +kernel⟩
abbrev nm_leaves_outside : List Str := ["body", "part"]
theorem sc_leaves_outside : FnScope nm_leaves_outside ["body"] (defScope st_leaves_outside) := ⟨rfl, rfl, rfl, by decide +kernel, rfl, by decide +kernel, by decide +kernel⟩
abbrev nm_Call___init__ : List Str := ["self", "name", "parameters", "body", "found", "part"]
theorem sc_Call___init__ : FnScope nm_Call___init__ ["self", "name", "parameters", "body"] (defScope st_Call___init__) := ⟨rfl, rfl, rfl, by decide +kernel, rfl, by decide +kernel, by decide +kernel⟩
abbrev nm_Call_cells : List Str := ["self"]
theorem sc_Call_cells : FnScope nm_Call_cells ["self"] (defScope st_Call_cells) := ⟨rfl, rfl, rfl, by decide +kernel, rfl, by decide +kernel, by decide +kernel⟩
abbrev nm_Call_steps : List Str := ["self"]
theorem sc_Call_steps : FnScope nm_Call_steps ["self"] (defScope st_Call_steps) := ⟨rfl, rfl, rfl, by decide +kernel, rfl, by decide +kernel, by decide +kernel⟩
abbrev nm_Call_lines : List Str := ["self"]
theorem sc_Call_lines : FnScope nm_Call_lines ["self"] (defScope st_Call_lines) := ⟨rfl, rfl, rfl, by decide +kernel, rfl, by decide +kernel, by decide +kernel⟩
abbrev nm_Call___eq__ : List Str := ["self", "other"]
theorem sc_Call___eq__ : FnScope nm_Call___eq__ ["self", "other"] (defScope st_Call___eq__) := ⟨rfl, rfl, rfl, by decide +kernel, rfl, by decide +kernel, by decide +kernel⟩
abbrev nm_Call___str__ : List Str := ["self"]
theorem sc_Call___str__ : FnScope nm_Call___str__ ["self"] (defScope st_Call___str__) := ⟨rfl, rfl, rfl, by decide +kernel, rfl, by decide +kernel, by decide +kernel⟩
abbrev nm_Call___repr__ : List Str := ["self"]
theorem sc_Call___repr__ : FnScope nm_Call___repr__ ["self"] (defScope st_Call___repr__) := ⟨rfl, rfl, rfl, by decide +kernel, rfl, by decide +kernel, by decide +kernel⟩
abbrev nm_check_parameters : List Str := ["value", "at", "name"]
theorem sc_check_parameters : FnScope nm_check_parameters ["value"] (defScope st_check_parameters) := ⟨rfl, rfl, rfl, by decide +kernel, rfl, by decide +kernel, by decide +kernel⟩
abbrev nm_slots_of : List Str := ["parameters", "found", "names", "part", "name"]
theorem sc_slots_of : FnScope nm_slots_of ["parameters", "found"] (defScope st_slots_of) := ⟨rfl, rfl, rfl, by decide +kernel, rfl, by decide +kernel, by decide +kernel⟩
abbrev nm_check_limits : List Str := ["cells", "slots", "sizes"]
theorem sc_check_limits : FnScope nm_check_limits ["cells", "slots", "sizes"] (defScope st_check_limits) := ⟨rfl, rfl, rfl, by decide +kernel, rfl, by decide +kernel, by decide +kernel⟩
abbrev nm_law_number : List Str := ["_law_numbers", "_law_k", "_law_seed", "_law_item"]
theorem sc_law_number : FnScope nm_law_number ["_law_numbers", "_law_k"] (defScope st_law_number) := ⟨rfl, rfl, rfl, by decide +kernel, rfl, by decide +kernel, by decide +kernel⟩
abbrev nm_law_source : List Str := ["_law_number_here", "_law_figures"]
theorem sc_law_source : FnScope nm_law_source ["_law_number_here"] (defScope st_law_source) := ⟨rfl, rfl, rfl, by decide +kernel, rfl, by decide +kernel, by decide +kernel⟩
abbrev nm_law_take : List Str := ["_law_source_here", "_law_many", "_law_seed", "_law_digit"]
theorem sc_law_take : FnScope nm_law_take ["_law_source_here", "_law_many"] (defScope st_law_take) := ⟨rfl, rfl, rfl, by decide +kernel, rfl, by decide +kernel, by decide +kernel⟩
abbrev nm_law_word : List Str := ["_law_source_here", "_law_words_here", "_law_letters", "_law_found", "_law_turn"]
theorem sc_law_word : FnScope nm_law_word ["_law_source_here"] (defScope st_law_word) := ⟨rfl, rfl, rfl, by decide +kernel, rfl, by decide +kernel, by decide +kernel⟩
abbrev nm_law_words : List Str := ["_law_source_here", "_law_many", "_law_found", "_law_turn", "_law_item", "_law_mate"]
theorem sc_law_words : FnScope nm_law_words ["_law_source_here", "_law_many"] (defScope st_law_words) := ⟨rfl, rfl, rfl, by decide +kernel, rfl, by decide +kernel, by decide +kernel⟩
abbrev nm_law_head : List Str := ["_law_tree"]
theorem sc_law_head : FnScope nm_law_head ["_law_tree"] (defScope st_law_head) := ⟨rfl, rfl, rfl, by decide +kernel, rfl, by decide +kernel, by decide +kernel⟩
abbrev nm_law_bodies : List Str := ["_law_tree"]
theorem sc_law_bodies : FnScope nm_law_bodies ["_law_tree"] (defScope st_law_bodies) := ⟨rfl, rfl, rfl, by decide +kernel, rfl, by decide +kernel, by decide +kernel⟩
abbrev nm_law_lines : List Str := ["_law_trees", "_law_indent", "_law_found", "_law_tree", "_law_inner", "_law_outer"]
theorem sc_law_lines : FnScope nm_law_lines ["_law_trees", "_law_indent"] (defScope st_law_lines) := ⟨rfl, rfl, rfl, by decide +kernel, rfl, by decide +kernel, by decide +kernel⟩
abbrev nm_law_paper : List Str := ["_law_made_here", "_law_tag", "_law_tags", "_law_trees"]
theorem sc_law_paper : FnScope nm_law_paper ["_law_made_here"] (defScope st_law_paper) := ⟨rfl, rfl, rfl, by decide +kernel, rfl, by decide +kernel, by decide +kernel⟩
abbrev nm_law_made : List Str := ["_law_source_here", "_law_tree", "_law_way", "_law_kind"]
theorem sc_law_made : FnScope nm_law_made ["_law_source_here", "_law_tree"] (defScope st_law_made) := ⟨rfl, rfl, rfl, by decide +kernel, rfl, by decide +kernel, by decide +kernel⟩
abbrev nm_law_holding : List Str := ["_law_source_here", "_law_tree", "_law_way", "_law_inner", "_law_outer", "_law_side", "_law_part_here"]
theorem sc_law_holding : FnScope nm_law_holding ["_law_source_here", "_law_tree", "_law_way"] (defScope st_law_holding) := ⟨rfl, rfl, rfl, by decide +kernel, rfl, by decide +kernel, by decide +kernel⟩
abbrev nm_law_size : List Str := ["_law_trees", "_law_tree", "_law_side"]
theorem sc_law_size : FnScope nm_law_size ["_law_trees"] (defScope st_law_size) := ⟨rfl, rfl, rfl, by decide +kernel, rfl, by decide +kernel, by decide +kernel⟩
abbrev nm_law_paces : List Str := ["_law_trees", "_law_found", "_law_tree", "_law_side"]
theorem sc_law_paces : FnScope nm_law_paces ["_law_trees"] (defScope st_law_paces) := ⟨rfl, rfl, rfl, by decide +kernel, rfl, by decide +kernel, by decide +kernel⟩
abbrev nm_law_line : List Str := ["_law_source_here", "_law_world", "_law_names", "_law_goals", "_law_rooms_here", "_law_room", "_law_goal", "_law_first", "_law_second", "_law_way"]
theorem sc_law_line : FnScope nm_law_line ["_law_source_here", "_law_world"] (defScope st_law_line) := ⟨rfl, rfl, rfl, by decide +kernel, rfl, by decide +kernel, by decide +kernel⟩
abbrev nm_law_operand : List Str := ["_law_source_here", "_law_names", "_law_some"]
theorem sc_law_operand : FnScope nm_law_operand ["_law_source_here", "_law_names"] (defScope st_law_operand) := ⟨rfl, rfl, rfl, by decide +kernel, rfl, by decide +kernel, by decide +kernel⟩
abbrev nm_law_statement : List Str := ["_law_source_here", "_law_world", "_law_deep", "_law_sort", "_law_way", "_law_first", "_law_second", "_law_inner"]
theorem sc_law_statement : FnScope nm_law_statement ["_law_source_here", "_law_world", "_law_deep", "_law_sort"] (defScope st_law_statement) := ⟨rfl, rfl, rfl, by decide +kernel, rfl, by decide +kernel, by decide +kernel⟩
abbrev nm_law_body : List Str := ["_law_source_here", "_law_world", "_law_deep", "_law_sort", "_law_turn"]
theorem sc_law_body : FnScope nm_law_body ["_law_source_here", "_law_world", "_law_deep", "_law_sort"] (defScope st_law_body) := ⟨rfl, rfl, rfl, by decide +kernel, rfl, by decide +kernel, by decide +kernel⟩
abbrev nm_law_fitting : List Str := ["_law_trees", "_law_most", "_law_paces_here", "_law_found", "_law_tree"]
theorem sc_law_fitting : FnScope nm_law_fitting ["_law_trees", "_law_most", "_law_paces_here"] (defScope st_law_fitting) := ⟨rfl, rfl, rfl, by decide +kernel, rfl, by decide +kernel, by decide +kernel⟩
abbrev nm_law_call : List Str := ["_law_source_here", "_law_most", "_law_paces_here", "_law_words_here", "_law_tags", "_law_goals", "_law_rooms_here", "_law_world", "_law_some", "_law_trees", "_law_turn", "_law_first", "_law_second", "_law_way"]
theorem sc_law_call : FnScope nm_law_call ["_law_source_here", "_law_most", "_law_paces_here"] (defScope st_law_call) := ⟨rfl, rfl, rfl, by decide +kernel, rfl, by decide +kernel, by decide +kernel⟩
abbrev nm_law_all : List Str := ["_law_trees", "_law_found", "_law_tree", "_law_inner", "_law_outer"]
theorem sc_law_all : FnScope nm_law_all ["_law_trees"] (defScope st_law_all) := ⟨rfl, rfl, rfl, by decide +kernel, rfl, by decide +kernel, by decide +kernel⟩
abbrev nm_law_rooms : List Str := ["_law_trees", "_law_some", "_law_tree"]
theorem sc_law_rooms : FnScope nm_law_rooms ["_law_trees"] (defScope st_law_rooms) := ⟨rfl, rfl, rfl, by decide +kernel, rfl, by decide +kernel, by decide +kernel⟩
abbrev nm_law_slots : List Str := ["_law_tags", "_law_trees", "_law_found", "_law_tree", "_law_own", "_law_item"]
theorem sc_law_slots : FnScope nm_law_slots ["_law_tags", "_law_trees"] (defScope st_law_slots) := ⟨rfl, rfl, rfl, by decide +kernel, rfl, by decide +kernel, by decide +kernel⟩
abbrev nm_law_shows : List Str := ["_law_mine", "_law_made_here", "_law_tag", "_law_tags", "_law_trees", "_law_told", "_law_paces_here", "_law_paper_here", "_law_k"]
theorem sc_law_shows : FnScope nm_law_shows ["_law_mine", "_law_made_here"] (defScope st_law_shows) := ⟨rfl, rfl, rfl, by decide +kernel, rfl, by decide +kernel, by decide +kernel⟩
abbrev nm_law_built : List Str := ["_law_source_here", "_law_made_here", "_law_tag", "_law_tags", "_law_trees", "_law_some", "_law_mine", "_law_tree", "_law_thing"]
theorem sc_law_built : FnScope nm_law_built ["_law_source_here", "_law_made_here"] (defScope st_law_built) := ⟨rfl, rfl, rfl, by decide +kernel, rfl, by decide +kernel, by decide +kernel⟩
abbrev nm_law_mates : List Str := ["_law_source_here", "_law_made_here", "_law_tag", "_law_tags", "_law_trees", "_law_more", "_law_found"]
theorem sc_law_mates : FnScope nm_law_mates ["_law_source_here", "_law_made_here"] (defScope st_law_mates) := ⟨rfl, rfl, rfl, by decide +kernel, rfl, by decide +kernel, by decide +kernel⟩
abbrev nm_law_right : List Str := ["_law_source_here", "_law_made_here", "_law_some", "_law_mine", "_law_k", "_law_odd", "_law_j", "_law_alike", "_law_item"]
theorem sc_law_right : FnScope nm_law_right ["_law_source_here"] (defScope st_law_right) := ⟨rfl, rfl, rfl, by decide +kernel, rfl, by decide +kernel, by decide +kernel⟩
abbrev nm_law_shared_right : List Str := ["_law_put", "_law_some", "_law_first", "_law_second", "_law_told", "_law_due"]
theorem sc_law_shared_right : FnScope nm_law_shared_right [] (defScope st_law_shared_right) := ⟨rfl, rfl, rfl, by decide +kernel, rfl, by decide +kernel, by decide +kernel⟩
abbrev nm_law : List Str := ["_law_numbers", "_law_empty", "_law_told", "_law_one", "_law_due", "_law_k"]
theorem sc_law : FnScope nm_law ["_law_numbers"] (defScope st_law) := ⟨rfl, rfl, rfl, by decide +kernel, rfl, by decide +kernel, by decide +kernel⟩
theorem kp_Look_rel {vs : List V} {us : List Value} {zs : List V} {ws : List Value} (r : Vals vs us) (q : Vals zs ws) : Vals (kp_Look vs zs) (kp_Look us ws) := by
  match r with
  | .nil => exact .nil
  | .cons _ (.cons _ _) => exact .nil
  | .cons r0 .nil =>
    match q with
    | .nil => exact .nil
    | .cons _ (.nil) => exact .nil
    | .cons q0 (.cons q1 (.nil)) => exact .cons r0 (.cons q1 (.cons q0 (.nil)))
    | .cons _ (.cons _ (.cons _ (_))) => exact .nil
theorem kp_Put_rel {vs : List V} {us : List Value} {zs : List V} {ws : List Value} (r : Vals vs us) (q : Vals zs ws) : Vals (kp_Put vs zs) (kp_Put us ws) := by
  match r with
  | .nil => exact .nil
  | .cons _ (.cons _ _) => exact .nil
  | .cons r0 .nil =>
    match q with
    | .nil => exact .nil
    | .cons _ (.nil) => exact .nil
    | .cons q0 (.cons q1 (.nil)) => exact .cons r0 (.cons q1 (.cons q0 (.nil)))
    | .cons _ (.cons _ (.cons _ (_))) => exact .nil
theorem kp_Swap_rel {vs : List V} {us : List Value} {zs : List V} {ws : List Value} (r : Vals vs us) (q : Vals zs ws) : Vals (kp_Swap vs zs) (kp_Swap us ws) := by
  match r with
  | .nil => exact .nil
  | .cons _ (.cons _ _) => exact .nil
  | .cons r0 .nil =>
    match q with
    | .nil => exact .nil
    | .cons _ (.nil) => exact .nil
    | .cons _ (.cons _ (.nil)) => exact .nil
    | .cons q0 (.cons q1 (.cons q2 (.nil))) => exact .cons r0 (.cons q1 (.cons q2 (.cons q0 (.nil))))
    | .cons _ (.cons _ (.cons _ (.cons _ (_)))) => exact .nil
theorem kp_Try_rel {vs : List V} {us : List Value} {zs : List V} {ws : List Value} (r : Vals vs us) (q : Vals zs ws) : Vals (kp_Try vs zs) (kp_Try us ws) := by
  match r with
  | .nil => exact .nil
  | .cons _ (.cons _ _) => exact .nil
  | .cons r0 .nil =>
    match q with
    | .nil => exact .nil
    | .cons _ (.nil) => exact .nil
    | .cons _ (.cons _ (.nil)) => exact .nil
    | .cons _ (.cons _ (.cons _ (.nil))) => exact .nil
    | .cons q0 (.cons q1 (.cons q2 (.cons q3 (.nil)))) => exact .cons r0 (.cons q3 (.cons q2 (.cons q1 (.cons q0 (.nil)))))
    | .cons _ (.cons _ (.cons _ (.cons _ (.cons _ (_))))) => exact .nil
theorem kp_Let_rel {vs : List V} {us : List Value} {zs : List V} {ws : List Value} (r : Vals vs us) (q : Vals zs ws) : Vals (kp_Let vs zs) (kp_Let us ws) := by
  match r with
  | .nil => exact .nil
  | .cons _ (.cons _ _) => exact .nil
  | .cons r0 .nil =>
    match q with
    | .nil => exact .nil
    | .cons _ (.nil) => exact .nil
    | .cons q0 (.cons q1 (.nil)) => exact .cons r0 (.cons q1 (.cons q0 (.nil)))
    | .cons _ (.cons _ (.cons _ (_))) => exact .nil
theorem kp_Return_rel {vs : List V} {us : List Value} {zs : List V} {ws : List Value} (r : Vals vs us) (q : Vals zs ws) : Vals (kp_Return vs zs) (kp_Return us ws) := by
  match r with
  | .nil => exact .nil
  | .cons _ (.cons _ _) => exact .nil
  | .cons r0 .nil =>
    match q with
    | .nil => exact .nil
    | .cons q0 (.nil) => exact .cons r0 (.cons q0 (.nil))
    | .cons _ (.cons _ (_)) => exact .nil
theorem kp_If_rel {vs : List V} {us : List Value} {zs : List V} {ws : List Value} (r : Vals vs us) (q : Vals zs ws) : Vals (kp_If vs zs) (kp_If us ws) := by
  match r with
  | .nil => exact .nil
  | .cons _ (.cons _ _) => exact .nil
  | .cons r0 .nil =>
    match q with
    | .nil => exact .nil
    | .cons _ (.nil) => exact .nil
    | .cons _ (.cons _ (.nil)) => exact .nil
    | .cons _ (.cons _ (.cons _ (.nil))) => exact .nil
    | .cons q0 (.cons q1 (.cons q2 (.cons q3 (.nil)))) => exact .cons r0 (.cons q3 (.cons q2 (.cons q1 (.cons q0 (.nil)))))
    | .cons _ (.cons _ (.cons _ (.cons _ (.cons _ (_))))) => exact .nil
theorem kp_Loop_rel {vs : List V} {us : List Value} {zs : List V} {ws : List Value} (r : Vals vs us) (q : Vals zs ws) : Vals (kp_Loop vs zs) (kp_Loop us ws) := by
  match r with
  | .nil => exact .nil
  | .cons _ (.cons _ _) => exact .nil
  | .cons r0 .nil =>
    match q with
    | .nil => exact .nil
    | .cons q0 (.nil) => exact .cons r0 (.cons q0 (.nil))
    | .cons _ (.cons _ (_)) => exact .nil
theorem kp_Joined_rel {vs : List V} {us : List Value} {zs : List V} {ws : List Value} (r : Vals vs us) (q : Vals zs ws) : Vals (kp_Joined vs zs) (kp_Joined us ws) := by
  match r with
  | .nil => exact .nil
  | .cons _ (.cons _ _) => exact .nil
  | .cons r0 .nil =>
    match q with
    | .nil => exact .nil
    | .cons q0 (.nil) => exact .cons r0 (.cons q0 (.nil))
    | .cons _ (.cons _ (_)) => exact .nil
theorem kp_Call_rel {vs : List V} {us : List Value} {zs : List V} {ws : List Value} (r : Vals vs us) (q : Vals zs ws) : Vals (kp_Call vs zs) (kp_Call us ws) := by
  match r with
  | .nil => exact .nil
  | .cons _ (.cons _ _) => exact .nil
  | .cons r0 .nil =>
    match q with
    | .nil => exact .nil
    | .cons _ (.nil) => exact .nil
    | .cons _ (.cons _ (.nil)) => exact .nil
    | .cons q0 (.cons q1 (.cons q2 (.nil))) => exact .cons r0 (.cons q2 (.cons q1 (.cons q0 (.nil))))
    | .cons _ (.cons _ (.cons _ (.cons _ (_)))) => exact .nil
structure Txt (K : PySem.W.Frag) (mg : Str → Option Value) (A : Ads) : Prop where
  b_abs : mg "abs" = none
  b_all : mg "all" = none
  b_any : mg "any" = none
  b_divmod : mg "divmod" = none
  b_enumerate : mg "enumerate" = none
  b_int : mg "int" = none
  b_isinstance : mg "isinstance" = none
  b_len : mg "len" = none
  b_list : mg "list" = none
  b_max : mg "max" = none
  b_min : mg "min" = none
  b_property : mg "property" = none
  b_range : mg "range" = none
  b_repr : mg "repr" = none
  b_reversed : mg "reversed" = none
  b_set : mg "set" = none
  b_sorted : mg "sorted" = none
  b_str : mg "str" = none
  b_sum : mg "sum" = none
  b_super : mg "super" = none
  b_tuple : mg "tuple" = none
  c_LETTERS : mg "LETTERS" = some (.str "abcdefghijklmnopqrstuvwxyz" A.t_LETTERS)
  c_SIGNS : mg "SIGNS" = some (.str "abcdefghijklmnopqrstuvwxyz0123456789" A.t_SIGNS)
  c_NOTHING : mg "NOTHING" = some (.str "nothing" A.t_NOTHING)
  c_YES : mg "YES" = some (.str "yes" A.t_YES)
  c_LONGEST : mg "LONGEST" = some (.int (8) A.t_LONGEST)
  c_ACTS : mg "ACTS" = some (.ref A.u_ACTS)
  s_ACTS : ∀ H, SqT K H A.u_ACTS [.str "look", .str "put", .str "swap", .str "try", .str "joined"]
  c_MAX_CELLS : mg "MAX_CELLS" = some (.int (3) A.t_MAX_CELLS)
  c_MAX_PARAMETERS : mg "MAX_PARAMETERS" = some (.int (2) A.t_MAX_PARAMETERS)
  c_MAX_SLOTS : mg "MAX_SLOTS" = some (.int (3) A.t_MAX_SLOTS)
  c_MAX_STEPS : mg "MAX_STEPS" = some (.int (12) A.t_MAX_STEPS)
  c_MAX_STATEMENTS : mg "MAX_STATEMENTS" = some (.int (40) A.t_MAX_STATEMENTS)
  c_MAX_LEVEL : mg "MAX_LEVEL" = some (.int (5) A.t_MAX_LEVEL)
  c_STEPS : mg "STEPS" = some (.ref A.u_STEPS)
  s_STEPS : ∀ H, SqT K H A.u_STEPS [.str "look", .str "put", .str "swap", .str "try", .str "joined"]
  c_TOGETHER : mg "TOGETHER" = some (.ref A.u_TOGETHER)
  s_TOGETHER : ∀ H, SqT K H A.u_TOGETHER [.str "look", .str "put", .str "swap", .str "try", .str "let", .str "if"]
  m_Statement : mg "Statement" = some (.ref A.c_Statement)
  m_Look : mg "Look" = some (.ref A.c_Look)
  m_Put : mg "Put" = some (.ref A.c_Put)
  m_Swap : mg "Swap" = some (.ref A.c_Swap)
  m_Try : mg "Try" = some (.ref A.c_Try)
  m_Let : mg "Let" = some (.ref A.c_Let)
  m_If : mg "If" = some (.ref A.c_If)
  m_Loop : mg "Loop" = some (.ref A.c_Loop)
  m_Leave : mg "Leave" = some (.ref A.c_Leave)
  m_Return : mg "Return" = some (.ref A.c_Return)
  m_Joined : mg "Joined" = some (.ref A.c_Joined)
  m_Call : mg "Call" = some (.ref A.c_Call)
  f_is_name : Fun K "is_name" "is_name" st_is_name A.a_is_name A.d_is_name
  k_is_name : PySem.W.keepIn K (.ref A.a_is_name) = true
  v_is_name : Binds K A.d_is_name ["value"] []
  m_is_name : mg "is_name" = some (.ref A.a_is_name)
  f_is_operand : Fun K "is_operand" "is_operand" st_is_operand A.a_is_operand A.d_is_operand
  k_is_operand : PySem.W.keepIn K (.ref A.a_is_operand) = true
  v_is_operand : Binds K A.d_is_operand ["value"] []
  m_is_operand : mg "is_operand" = some (.ref A.a_is_operand)
  f_check_name : Fun K "check_name" "check_name" st_check_name A.a_check_name A.d_check_name
  k_check_name : PySem.W.keepIn K (.ref A.a_check_name) = true
  v_check_name : Binds K A.d_check_name ["value"] []
  m_check_name : mg "check_name" = some (.ref A.a_check_name)
  f_check_operand : Fun K "check_operand" "check_operand" st_check_operand A.a_check_operand A.d_check_operand
  k_check_operand : PySem.W.keepIn K (.ref A.a_check_operand) = true
  v_check_operand : Binds K A.d_check_operand ["value"] []
  m_check_operand : mg "check_operand" = some (.ref A.a_check_operand)
  f_coded : Fun K "coded" "coded" st_coded A.a_coded A.d_coded
  k_coded : PySem.W.keepIn K (.ref A.a_coded) = true
  v_coded : Binds K A.d_coded ["parameters", "slots", "body"] []
  m_coded : mg "coded" = some (.ref A.a_coded)
  f_coded_rows : Fun K "coded_rows" "coded_rows" st_coded_rows A.a_coded_rows A.d_coded_rows
  k_coded_rows : PySem.W.keepIn K (.ref A.a_coded_rows) = true
  v_coded_rows : Binds K A.d_coded_rows ["names", "body"] []
  m_coded_rows : mg "coded_rows" = some (.ref A.a_coded_rows)
  f_moved : Fun K "moved" "moved" st_moved A.a_moved A.d_moved
  k_moved : PySem.W.keepIn K (.ref A.a_moved) = true
  v_moved : Binds K A.d_moved ["rows", "by"] []
  m_moved : mg "moved" = some (.ref A.a_moved)
  f_rows_of : Fun K "rows_of" "rows_of" st_rows_of A.a_rows_of A.d_rows_of
  k_rows_of : PySem.W.keepIn K (.ref A.a_rows_of) = true
  v_rows_of : Binds K A.d_rows_of ["names", "part"] []
  m_rows_of : mg "rows_of" = some (.ref A.a_rows_of)
  f_parts_of_row : Fun K "parts_of_row" "parts_of_row" st_parts_of_row A.a_parts_of_row A.d_parts_of_row
  k_parts_of_row : PySem.W.keepIn K (.ref A.a_parts_of_row) = true
  v_parts_of_row : Binds K A.d_parts_of_row ["names", "part"] []
  m_parts_of_row : mg "parts_of_row" = some (.ref A.a_parts_of_row)
  f_place_of : Fun K "place_of" "place_of" st_place_of A.a_place_of A.d_place_of
  k_place_of : PySem.W.keepIn K (.ref A.a_place_of) = true
  v_place_of : Binds K A.d_place_of ["names", "operand"] []
  m_place_of : mg "place_of" = some (.ref A.a_place_of)
  f_Statement___init__ : FunV K "__init__" "Statement.__init__" st_Statement___init__ (.ref A.dt_Statement___init__) A.a_Statement___init__ A.d_Statement___init__
  k_Statement___init__ : PySem.W.keepIn K (.ref A.a_Statement___init__) = true
  vd_Statement___init___1 : Binds K A.d_Statement___init__ ["self", "line", "mentioned", "body", "otherwise"] [.ref A.x_Statement___init___0, .ref A.x_Statement___init___1, .ref A.x_Statement___init___2]
  vd_Statement___init___2 : Binds K A.d_Statement___init__ ["self", "line", "mentioned", "body", "otherwise"] [.ref A.x_Statement___init___1, .ref A.x_Statement___init___2]
  vd_Statement___init___3 : Binds K A.d_Statement___init__ ["self", "line", "mentioned", "body", "otherwise"] [.ref A.x_Statement___init___2]
  vd_Statement___init___4 : Binds K A.d_Statement___init__ ["self", "line", "mentioned", "body", "otherwise"] []
  e_Statement___init___0 : ∀ H, SqT K H A.x_Statement___init___0 []
  t_Statement___init___0 : ∀ H, TyX K H (.ref A.x_Statement___init___0) (.type "tuple")
  e_Statement___init___1 : ∀ H, SqT K H A.x_Statement___init___1 []
  t_Statement___init___1 : ∀ H, TyX K H (.ref A.x_Statement___init___1) (.type "tuple")
  e_Statement___init___2 : ∀ H, SqT K H A.x_Statement___init___2 []
  t_Statement___init___2 : ∀ H, TyX K H (.ref A.x_Statement___init___2) (.type "tuple")
  fi_Statement___init__ : PySem.W.fnIn K A.a_Statement___init__ = true
  ft_Statement___init__ : PySem.W.typeIn K (.ref A.a_Statement___init__) = some (.type "function")
  f_Statement_amount : Fun K "amount" "Statement.amount" st_Statement_amount A.a_Statement_amount A.d_Statement_amount
  k_Statement_amount : PySem.W.keepIn K (.ref A.a_Statement_amount) = true
  v_Statement_amount : Binds K A.d_Statement_amount ["self"] []
  f_Statement_level : Fun K "level" "Statement.level" st_Statement_level A.a_Statement_level A.d_Statement_level
  k_Statement_level : PySem.W.keepIn K (.ref A.a_Statement_level) = true
  v_Statement_level : Binds K A.d_Statement_level ["self"] []
  f_Statement___eq__ : Fun K "__eq__" "Statement.__eq__" st_Statement___eq__ A.a_Statement___eq__ A.d_Statement___eq__
  k_Statement___eq__ : PySem.W.keepIn K (.ref A.a_Statement___eq__) = true
  v_Statement___eq__ : Binds K A.d_Statement___eq__ ["self", "other"] []
  f_Statement___str__ : Fun K "__str__" "Statement.__str__" st_Statement___str__ A.a_Statement___str__ A.d_Statement___str__
  k_Statement___str__ : PySem.W.keepIn K (.ref A.a_Statement___str__) = true
  v_Statement___str__ : Binds K A.d_Statement___str__ ["self"] []
  f_Statement___repr__ : Fun K "__repr__" "Statement.__repr__" st_Statement___repr__ A.a_Statement___repr__ A.d_Statement___repr__
  k_Statement___repr__ : PySem.W.keepIn K (.ref A.a_Statement___repr__) = true
  v_Statement___repr__ : Binds K A.d_Statement___repr__ ["self"] []
  f_Look___init__ : SFun P K "__init__" "Look.__init__" st_Look___init__ A.a_Look___init__ A.d_Look___init__ A.cc_Look___init__ A.c_Look
  k_Look___init__ : PySem.W.keepIn K (.ref A.a_Look___init__) = true
  v_Look___init__ : Binds K A.d_Look___init__ ["self", "cell", "into"] []
  f_Put___init__ : SFun P K "__init__" "Put.__init__" st_Put___init__ A.a_Put___init__ A.d_Put___init__ A.cc_Put___init__ A.c_Put
  k_Put___init__ : PySem.W.keepIn K (.ref A.a_Put___init__) = true
  v_Put___init__ : Binds K A.d_Put___init__ ["self", "cell", "operand"] []
  f_Swap___init__ : SFun P K "__init__" "Swap.__init__" st_Swap___init__ A.a_Swap___init__ A.d_Swap___init__ A.cc_Swap___init__ A.c_Swap
  k_Swap___init__ : PySem.W.keepIn K (.ref A.a_Swap___init__) = true
  v_Swap___init__ : Binds K A.d_Swap___init__ ["self", "cell", "operand", "into"] []
  f_Try___init__ : SFun P K "__init__" "Try.__init__" st_Try___init__ A.a_Try___init__ A.d_Try___init__ A.cc_Try___init__ A.c_Try
  k_Try___init__ : PySem.W.keepIn K (.ref A.a_Try___init__) = true
  v_Try___init__ : Binds K A.d_Try___init__ ["self", "cell", "old", "new", "into"] []
  f_Let___init__ : SFun P K "__init__" "Let.__init__" st_Let___init__ A.a_Let___init__ A.d_Let___init__ A.cc_Let___init__ A.c_Let
  k_Let___init__ : PySem.W.keepIn K (.ref A.a_Let___init__) = true
  v_Let___init__ : Binds K A.d_Let___init__ ["self", "into", "operand"] []
  f_If___init__ : SFun P K "__init__" "If.__init__" st_If___init__ A.a_If___init__ A.d_If___init__ A.cc_If___init__ A.c_If
  k_If___init__ : PySem.W.keepIn K (.ref A.a_If___init__) = true
  vd_If___init___3 : Binds K A.d_If___init__ ["self", "left", "right", "body", "otherwise"] [.ref A.x_If___init___0]
  vd_If___init___4 : Binds K A.d_If___init__ ["self", "left", "right", "body", "otherwise"] []
  e_If___init___0 : ∀ H, SqT K H A.x_If___init___0 []
  t_If___init___0 : ∀ H, TyX K H (.ref A.x_If___init___0) (.type "tuple")
  f_Loop___init__ : SFun P K "__init__" "Loop.__init__" st_Loop___init__ A.a_Loop___init__ A.d_Loop___init__ A.cc_Loop___init__ A.c_Loop
  k_Loop___init__ : PySem.W.keepIn K (.ref A.a_Loop___init__) = true
  v_Loop___init__ : Binds K A.d_Loop___init__ ["self", "body"] []
  f_Leave___init__ : SFun P K "__init__" "Leave.__init__" st_Leave___init__ A.a_Leave___init__ A.d_Leave___init__ A.cc_Leave___init__ A.c_Leave
  k_Leave___init__ : PySem.W.keepIn K (.ref A.a_Leave___init__) = true
  v_Leave___init__ : Binds K A.d_Leave___init__ ["self"] []
  f_Return___init__ : SFun P K "__init__" "Return.__init__" st_Return___init__ A.a_Return___init__ A.d_Return___init__ A.cc_Return___init__ A.c_Return
  k_Return___init__ : PySem.W.keepIn K (.ref A.a_Return___init__) = true
  v_Return___init__ : Binds K A.d_Return___init__ ["self", "operand"] []
  f_Joined___init__ : SFun P K "__init__" "Joined.__init__" st_Joined___init__ A.a_Joined___init__ A.d_Joined___init__ A.cc_Joined___init__ A.c_Joined
  k_Joined___init__ : PySem.W.keepIn K (.ref A.a_Joined___init__) = true
  v_Joined___init__ : Binds K A.d_Joined___init__ ["self", "body"] []
  f_indented : Fun K "indented" "indented" st_indented A.a_indented A.d_indented
  k_indented : PySem.W.keepIn K (.ref A.a_indented) = true
  v_indented : Binds K A.d_indented ["body"] []
  m_indented : mg "indented" = some (.ref A.a_indented)
  f_goes_together : Fun K "goes_together" "goes_together" st_goes_together A.a_goes_together A.d_goes_together
  k_goes_together : PySem.W.keepIn K (.ref A.a_goes_together) = true
  v_goes_together : Binds K A.d_goes_together ["part"] []
  m_goes_together : mg "goes_together" = some (.ref A.a_goes_together)
  f_check_body : Fun K "check_body" "check_body" st_check_body A.a_check_body A.d_check_body
  k_check_body : PySem.W.keepIn K (.ref A.a_check_body) = true
  v_check_body : Binds K A.d_check_body ["value"] []
  m_check_body : mg "check_body" = some (.ref A.a_check_body)
  f_check_joined : Fun K "check_joined" "check_joined" st_check_joined A.a_check_joined A.d_check_joined
  k_check_joined : PySem.W.keepIn K (.ref A.a_check_joined) = true
  v_check_joined : Binds K A.d_check_joined ["value"] []
  m_check_joined : mg "check_joined" = some (.ref A.a_check_joined)
  f_all_in : Fun K "all_in" "all_in" st_all_in A.a_all_in A.d_all_in
  k_all_in : PySem.W.keepIn K (.ref A.a_all_in) = true
  v_all_in : Binds K A.d_all_in ["body"] []
  m_all_in : mg "all_in" = some (.ref A.a_all_in)
  f_steps_in : Fun K "steps_in" "steps_in" st_steps_in A.a_steps_in A.d_steps_in
  k_steps_in : PySem.W.keepIn K (.ref A.a_steps_in) = true
  v_steps_in : Binds K A.d_steps_in ["body"] []
  m_steps_in : mg "steps_in" = some (.ref A.a_steps_in)
  f_leaves_outside : Fun K "leaves_outside" "leaves_outside" st_leaves_outside A.a_leaves_outside A.d_leaves_outside
  k_leaves_outside : PySem.W.keepIn K (.ref A.a_leaves_outside) = true
  v_leaves_outside : Binds K A.d_leaves_outside ["body"] []
  m_leaves_outside : mg "leaves_outside" = some (.ref A.a_leaves_outside)
  f_Call___init__ : Fun K "__init__" "Call.__init__" st_Call___init__ A.a_Call___init__ A.d_Call___init__
  k_Call___init__ : PySem.W.keepIn K (.ref A.a_Call___init__) = true
  v_Call___init__ : Binds K A.d_Call___init__ ["self", "name", "parameters", "body"] []
  f_Call_cells : Fun K "cells" "Call.cells" st_Call_cells A.a_Call_cells A.d_Call_cells
  k_Call_cells : PySem.W.keepIn K (.ref A.a_Call_cells) = true
  v_Call_cells : Binds K A.d_Call_cells ["self"] []
  pr_Call_cells : PropOf K A.c_Call "cells" A.p_Call_cells A.a_Call_cells
  f_Call_steps : Fun K "steps" "Call.steps" st_Call_steps A.a_Call_steps A.d_Call_steps
  k_Call_steps : PySem.W.keepIn K (.ref A.a_Call_steps) = true
  v_Call_steps : Binds K A.d_Call_steps ["self"] []
  pr_Call_steps : PropOf K A.c_Call "steps" A.p_Call_steps A.a_Call_steps
  f_Call_lines : Fun K "lines" "Call.lines" st_Call_lines A.a_Call_lines A.d_Call_lines
  k_Call_lines : PySem.W.keepIn K (.ref A.a_Call_lines) = true
  v_Call_lines : Binds K A.d_Call_lines ["self"] []
  pr_Call_lines : PropOf K A.c_Call "lines" A.p_Call_lines A.a_Call_lines
  f_Call___eq__ : Fun K "__eq__" "Call.__eq__" st_Call___eq__ A.a_Call___eq__ A.d_Call___eq__
  k_Call___eq__ : PySem.W.keepIn K (.ref A.a_Call___eq__) = true
  v_Call___eq__ : Binds K A.d_Call___eq__ ["self", "other"] []
  sp_Call___eq__ : Spc K A.c_Call "__eq__" A.a_Call___eq__
  f_Call___str__ : Fun K "__str__" "Call.__str__" st_Call___str__ A.a_Call___str__ A.d_Call___str__
  k_Call___str__ : PySem.W.keepIn K (.ref A.a_Call___str__) = true
  v_Call___str__ : Binds K A.d_Call___str__ ["self"] []
  sp_Call___str__ : Spc K A.c_Call "__str__" A.a_Call___str__
  f_Call___repr__ : Fun K "__repr__" "Call.__repr__" st_Call___repr__ A.a_Call___repr__ A.d_Call___repr__
  k_Call___repr__ : PySem.W.keepIn K (.ref A.a_Call___repr__) = true
  v_Call___repr__ : Binds K A.d_Call___repr__ ["self"] []
  sp_Call___repr__ : Spc K A.c_Call "__repr__" A.a_Call___repr__
  f_check_parameters : Fun K "check_parameters" "check_parameters" st_check_parameters A.a_check_parameters A.d_check_parameters
  k_check_parameters : PySem.W.keepIn K (.ref A.a_check_parameters) = true
  v_check_parameters : Binds K A.d_check_parameters ["value"] []
  m_check_parameters : mg "check_parameters" = some (.ref A.a_check_parameters)
  f_slots_of : Fun K "slots_of" "slots_of" st_slots_of A.a_slots_of A.d_slots_of
  k_slots_of : PySem.W.keepIn K (.ref A.a_slots_of) = true
  v_slots_of : Binds K A.d_slots_of ["parameters", "found"] []
  m_slots_of : mg "slots_of" = some (.ref A.a_slots_of)
  f_check_limits : Fun K "check_limits" "check_limits" st_check_limits A.a_check_limits A.d_check_limits
  k_check_limits : PySem.W.keepIn K (.ref A.a_check_limits) = true
  v_check_limits : Binds K A.d_check_limits ["cells", "slots", "sizes"] []
  m_check_limits : mg "check_limits" = some (.ref A.a_check_limits)
  f_law_number : Fun K "_law_number" "_law_number" st_law_number A.a_law_number A.d_law_number
  k_law_number : PySem.W.keepIn K (.ref A.a_law_number) = true
  v_law_number : Binds K A.d_law_number ["_law_numbers", "_law_k"] []
  m_law_number : mg "_law_number" = some (.ref A.a_law_number)
  f_law_source : Fun K "_law_source" "_law_source" st_law_source A.a_law_source A.d_law_source
  k_law_source : PySem.W.keepIn K (.ref A.a_law_source) = true
  v_law_source : Binds K A.d_law_source ["_law_number_here"] []
  m_law_source : mg "_law_source" = some (.ref A.a_law_source)
  f_law_take : Fun K "_law_take" "_law_take" st_law_take A.a_law_take A.d_law_take
  k_law_take : PySem.W.keepIn K (.ref A.a_law_take) = true
  v_law_take : Binds K A.d_law_take ["_law_source_here", "_law_many"] []
  m_law_take : mg "_law_take" = some (.ref A.a_law_take)
  f_law_word : Fun K "_law_word" "_law_word" st_law_word A.a_law_word A.d_law_word
  k_law_word : PySem.W.keepIn K (.ref A.a_law_word) = true
  v_law_word : Binds K A.d_law_word ["_law_source_here"] []
  m_law_word : mg "_law_word" = some (.ref A.a_law_word)
  f_law_words : Fun K "_law_words" "_law_words" st_law_words A.a_law_words A.d_law_words
  k_law_words : PySem.W.keepIn K (.ref A.a_law_words) = true
  v_law_words : Binds K A.d_law_words ["_law_source_here", "_law_many"] []
  m_law_words : mg "_law_words" = some (.ref A.a_law_words)
  f_law_head : Fun K "_law_head" "_law_head" st_law_head A.a_law_head A.d_law_head
  k_law_head : PySem.W.keepIn K (.ref A.a_law_head) = true
  v_law_head : Binds K A.d_law_head ["_law_tree"] []
  m_law_head : mg "_law_head" = some (.ref A.a_law_head)
  f_law_bodies : Fun K "_law_bodies" "_law_bodies" st_law_bodies A.a_law_bodies A.d_law_bodies
  k_law_bodies : PySem.W.keepIn K (.ref A.a_law_bodies) = true
  v_law_bodies : Binds K A.d_law_bodies ["_law_tree"] []
  m_law_bodies : mg "_law_bodies" = some (.ref A.a_law_bodies)
  f_law_lines : Fun K "_law_lines" "_law_lines" st_law_lines A.a_law_lines A.d_law_lines
  k_law_lines : PySem.W.keepIn K (.ref A.a_law_lines) = true
  v_law_lines : Binds K A.d_law_lines ["_law_trees", "_law_indent"] []
  m_law_lines : mg "_law_lines" = some (.ref A.a_law_lines)
  f_law_paper : Fun K "_law_paper" "_law_paper" st_law_paper A.a_law_paper A.d_law_paper
  k_law_paper : PySem.W.keepIn K (.ref A.a_law_paper) = true
  v_law_paper : Binds K A.d_law_paper ["_law_made_here"] []
  m_law_paper : mg "_law_paper" = some (.ref A.a_law_paper)
  f_law_made : Fun K "_law_made" "_law_made" st_law_made A.a_law_made A.d_law_made
  k_law_made : PySem.W.keepIn K (.ref A.a_law_made) = true
  v_law_made : Binds K A.d_law_made ["_law_source_here", "_law_tree"] []
  m_law_made : mg "_law_made" = some (.ref A.a_law_made)
  f_law_holding : Fun K "_law_holding" "_law_holding" st_law_holding A.a_law_holding A.d_law_holding
  k_law_holding : PySem.W.keepIn K (.ref A.a_law_holding) = true
  v_law_holding : Binds K A.d_law_holding ["_law_source_here", "_law_tree", "_law_way"] []
  m_law_holding : mg "_law_holding" = some (.ref A.a_law_holding)
  f_law_size : Fun K "_law_size" "_law_size" st_law_size A.a_law_size A.d_law_size
  k_law_size : PySem.W.keepIn K (.ref A.a_law_size) = true
  v_law_size : Binds K A.d_law_size ["_law_trees"] []
  m_law_size : mg "_law_size" = some (.ref A.a_law_size)
  f_law_paces : Fun K "_law_paces" "_law_paces" st_law_paces A.a_law_paces A.d_law_paces
  k_law_paces : PySem.W.keepIn K (.ref A.a_law_paces) = true
  v_law_paces : Binds K A.d_law_paces ["_law_trees"] []
  m_law_paces : mg "_law_paces" = some (.ref A.a_law_paces)
  f_law_line : Fun K "_law_line" "_law_line" st_law_line A.a_law_line A.d_law_line
  k_law_line : PySem.W.keepIn K (.ref A.a_law_line) = true
  v_law_line : Binds K A.d_law_line ["_law_source_here", "_law_world"] []
  m_law_line : mg "_law_line" = some (.ref A.a_law_line)
  f_law_operand : Fun K "_law_operand" "_law_operand" st_law_operand A.a_law_operand A.d_law_operand
  k_law_operand : PySem.W.keepIn K (.ref A.a_law_operand) = true
  v_law_operand : Binds K A.d_law_operand ["_law_source_here", "_law_names"] []
  m_law_operand : mg "_law_operand" = some (.ref A.a_law_operand)
  f_law_statement : Fun K "_law_statement" "_law_statement" st_law_statement A.a_law_statement A.d_law_statement
  k_law_statement : PySem.W.keepIn K (.ref A.a_law_statement) = true
  v_law_statement : Binds K A.d_law_statement ["_law_source_here", "_law_world", "_law_deep", "_law_sort"] []
  m_law_statement : mg "_law_statement" = some (.ref A.a_law_statement)
  f_law_body : Fun K "_law_body" "_law_body" st_law_body A.a_law_body A.d_law_body
  k_law_body : PySem.W.keepIn K (.ref A.a_law_body) = true
  v_law_body : Binds K A.d_law_body ["_law_source_here", "_law_world", "_law_deep", "_law_sort"] []
  m_law_body : mg "_law_body" = some (.ref A.a_law_body)
  f_law_fitting : Fun K "_law_fitting" "_law_fitting" st_law_fitting A.a_law_fitting A.d_law_fitting
  k_law_fitting : PySem.W.keepIn K (.ref A.a_law_fitting) = true
  v_law_fitting : Binds K A.d_law_fitting ["_law_trees", "_law_most", "_law_paces_here"] []
  m_law_fitting : mg "_law_fitting" = some (.ref A.a_law_fitting)
  f_law_call : Fun K "_law_call" "_law_call" st_law_call A.a_law_call A.d_law_call
  k_law_call : PySem.W.keepIn K (.ref A.a_law_call) = true
  v_law_call : Binds K A.d_law_call ["_law_source_here", "_law_most", "_law_paces_here"] []
  m_law_call : mg "_law_call" = some (.ref A.a_law_call)
  f_law_all : Fun K "_law_all" "_law_all" st_law_all A.a_law_all A.d_law_all
  k_law_all : PySem.W.keepIn K (.ref A.a_law_all) = true
  v_law_all : Binds K A.d_law_all ["_law_trees"] []
  m_law_all : mg "_law_all" = some (.ref A.a_law_all)
  f_law_rooms : Fun K "_law_rooms" "_law_rooms" st_law_rooms A.a_law_rooms A.d_law_rooms
  k_law_rooms : PySem.W.keepIn K (.ref A.a_law_rooms) = true
  v_law_rooms : Binds K A.d_law_rooms ["_law_trees"] []
  m_law_rooms : mg "_law_rooms" = some (.ref A.a_law_rooms)
  f_law_slots : Fun K "_law_slots" "_law_slots" st_law_slots A.a_law_slots A.d_law_slots
  k_law_slots : PySem.W.keepIn K (.ref A.a_law_slots) = true
  v_law_slots : Binds K A.d_law_slots ["_law_tags", "_law_trees"] []
  m_law_slots : mg "_law_slots" = some (.ref A.a_law_slots)
  f_law_shows : Fun K "_law_shows" "_law_shows" st_law_shows A.a_law_shows A.d_law_shows
  k_law_shows : PySem.W.keepIn K (.ref A.a_law_shows) = true
  v_law_shows : Binds K A.d_law_shows ["_law_mine", "_law_made_here"] []
  m_law_shows : mg "_law_shows" = some (.ref A.a_law_shows)
  f_law_built : Fun K "_law_built" "_law_built" st_law_built A.a_law_built A.d_law_built
  k_law_built : PySem.W.keepIn K (.ref A.a_law_built) = true
  v_law_built : Binds K A.d_law_built ["_law_source_here", "_law_made_here"] []
  m_law_built : mg "_law_built" = some (.ref A.a_law_built)
  f_law_mates : Fun K "_law_mates" "_law_mates" st_law_mates A.a_law_mates A.d_law_mates
  k_law_mates : PySem.W.keepIn K (.ref A.a_law_mates) = true
  v_law_mates : Binds K A.d_law_mates ["_law_source_here", "_law_made_here"] []
  m_law_mates : mg "_law_mates" = some (.ref A.a_law_mates)
  f_law_right : Fun K "_law_right" "_law_right" st_law_right A.a_law_right A.d_law_right
  k_law_right : PySem.W.keepIn K (.ref A.a_law_right) = true
  v_law_right : Binds K A.d_law_right ["_law_source_here"] []
  m_law_right : mg "_law_right" = some (.ref A.a_law_right)
  f_law_shared_right : Fun K "_law_shared_right" "_law_shared_right" st_law_shared_right A.a_law_shared_right A.d_law_shared_right
  k_law_shared_right : PySem.W.keepIn K (.ref A.a_law_shared_right) = true
  v_law_shared_right : Binds K A.d_law_shared_right [] []
  m_law_shared_right : mg "_law_shared_right" = some (.ref A.a_law_shared_right)
  f_law : Fun K "law" "law" st_law A.a_law A.d_law
  k_law : PySem.W.keepIn K (.ref A.a_law) = true
  v_law : Binds K A.d_law ["_law_numbers"] []
  m_law : mg "law" = some (.ref A.a_law)
  famB : FamC K A.c_Statement famAttrs
  fam : ∀ C ∈ A.fam, FamC K C famAttrs
  tab : ∀ (i j : Nat) (C D : Addr), A.fam[i]? = some C → A.fam[j]? = some D → PySem.W.kitOne K (.ref C) (.ref D) = some (i == j) ∧ PySem.W.notFirst K C (.ref D) = true
  sub : ∀ C ∈ A.fam, PySem.W.mroIn K C (.ref A.c_Statement) = some true ∧ PySem.W.kitOne K (.ref C) (.ref A.c_Statement) = some true
  slf : ∀ C ∈ A.fam, PySem.W.mroIn K C (.ref C) = some true
  sup : ∀ C ∈ A.fam, PySem.W.ks_superIn K C C "__init__" = some (some (.ref A.a_Statement___init__))
  pr_Statement_amount : ∀ C ∈ A.fam, Cls K C ∧ PropOf K C "amount" A.p_Statement_amount A.a_Statement_amount
  pr_Statement_level : ∀ C ∈ A.fam, Cls K C ∧ PropOf K C "level" A.p_Statement_level A.a_Statement_level
  sp_Statement___eq__ : ∀ C ∈ A.fam, Spc K C "__eq__" A.a_Statement___eq__
  sp_Statement___str__ : ∀ C ∈ A.fam, Spc K C "__str__" A.a_Statement___str__
  sp_Statement___repr__ : ∀ C ∈ A.fam, Spc K C "__repr__" A.a_Statement___repr__
  crd : ∀ C ∈ A.fam, ClX.CRead K C (.type "type")
  co_Look : ∃ u, Con K A.c_Look "WORD" (.str "look") u
  cv_Look : ∃ u, ClX.CVal K A.c_Look (.type "type") "WORD" (.str "look") u
  co_Put : ∃ u, Con K A.c_Put "WORD" (.str "put") u
  cv_Put : ∃ u, ClX.CVal K A.c_Put (.type "type") "WORD" (.str "put") u
  co_Swap : ∃ u, Con K A.c_Swap "WORD" (.str "swap") u
  cv_Swap : ∃ u, ClX.CVal K A.c_Swap (.type "type") "WORD" (.str "swap") u
  co_Try : ∃ u, Con K A.c_Try "WORD" (.str "try") u
  cv_Try : ∃ u, ClX.CVal K A.c_Try (.type "type") "WORD" (.str "try") u
  co_Let : ∃ u, Con K A.c_Let "WORD" (.str "let") u
  cv_Let : ∃ u, ClX.CVal K A.c_Let (.type "type") "WORD" (.str "let") u
  co_Leave : ∃ u, Con K A.c_Leave "WORD" (.str "leave") u
  cv_Leave : ∃ u, ClX.CVal K A.c_Leave (.type "type") "WORD" (.str "leave") u
  co_Return : ∃ u, Con K A.c_Return "WORD" (.str "return") u
  cv_Return : ∃ u, ClX.CVal K A.c_Return (.type "type") "WORD" (.str "return") u
  co_If : ∃ u, Con K A.c_If "WORD" (.str "if") u
  cv_If : ∃ u, ClX.CVal K A.c_If (.type "type") "WORD" (.str "if") u
  co_Loop : ∃ u, Con K A.c_Loop "WORD" (.str "loop") u
  cv_Loop : ∃ u, ClX.CVal K A.c_Loop (.type "type") "WORD" (.str "loop") u
  co_Joined : ∃ u, Con K A.c_Joined "WORD" (.str "joined") u
  cv_Joined : ∃ u, ClX.CVal K A.c_Joined (.type "type") "WORD" (.str "joined") u
  mk_Look : Mk K A.c_Look A.a_Look___init__
  kb_Look : KBn K A.d_Look___init__ ["self", "cell", "into"] 1 ["into", "cell"] kp_Look kp_Look
  mk_Put : Mk K A.c_Put A.a_Put___init__
  kb_Put : KBn K A.d_Put___init__ ["self", "cell", "operand"] 1 ["operand", "cell"] kp_Put kp_Put
  mk_Swap : Mk K A.c_Swap A.a_Swap___init__
  kb_Swap : KBn K A.d_Swap___init__ ["self", "cell", "operand", "into"] 1 ["into", "cell", "operand"] kp_Swap kp_Swap
  mk_Try : Mk K A.c_Try A.a_Try___init__
  kb_Try : KBn K A.d_Try___init__ ["self", "cell", "old", "new", "into"] 1 ["into", "new", "old", "cell"] kp_Try kp_Try
  mk_Let : Mk K A.c_Let A.a_Let___init__
  kb_Let : KBn K A.d_Let___init__ ["self", "into", "operand"] 1 ["operand", "into"] kp_Let kp_Let
  mk_Leave : Mk K A.c_Leave A.a_Leave___init__
  mk_Return : Mk K A.c_Return A.a_Return___init__
  kb_Return : KBn K A.d_Return___init__ ["self", "operand"] 1 ["operand"] kp_Return kp_Return
  mk_If : Mk K A.c_If A.a_If___init__
  kb_If : KBn K A.d_If___init__ ["self", "left", "right", "body", "otherwise"] 1 ["otherwise", "body", "right", "left"] kp_If kp_If
  mk_Loop : Mk K A.c_Loop A.a_Loop___init__
  kb_Loop : KBn K A.d_Loop___init__ ["self", "body"] 1 ["body"] kp_Loop kp_Loop
  mk_Joined : Mk K A.c_Joined A.a_Joined___init__
  kb_Joined : KBn K A.d_Joined___init__ ["self", "body"] 1 ["body"] kp_Joined kp_Joined
  cl_Call : Cls K A.c_Call
  ty_Call : ∀ (H : Hp) (a dx : Addr) (fs : List (Str × V)), H a = some (.ins A.c_Call dx fs) → TyX K H (.ref a) (.ref A.c_Call)
  mo_Call : PySem.W.mroIn K A.c_Call (.type "object") = some true
  ne_Call : PySem.W.findIn K (.ref A.c_Call) "__ne__" = some (some (.builtin "object.__ne__"))
  ns_Call : PySem.W.notFirst K A.c_Call (.ref A.c_Call) = true
  nf_Call : ∀ n : Ty7, PySem.W.notFirst K A.c_Call (.type n.nm) = true
  ks_Call : PySem.W.kitOne K (.ref A.c_Call) (.ref A.c_Call) = some true
  ki_Call : ∀ n : Ty7, PySem.W.kitOne K (.type n.nm) (.ref A.c_Call) = some false
  na_Call_name : NoAttr K A.c_Call "name"
  na_Call_parameters : NoAttr K A.c_Call "parameters"
  na_Call_body : NoAttr K A.c_Call "body"
  na_Call_places : NoAttr K A.c_Call "places"
  na_Call_slots : NoAttr K A.c_Call "slots"
  na_Call_sizes : NoAttr K A.c_Call "sizes"
  na_Call_code : NoAttr K A.c_Call "code"
  mk_Call : Mk K A.c_Call A.a_Call___init__
  kb_Call : KBn K A.d_Call___init__ ["self", "name", "parameters", "body"] 1 ["body", "parameters", "name"] kp_Call kp_Call
theorem txt_of {K : PySem.W.Frag} {h : Heap} {mg : Str → Option Value} (X : K.In h) (G : h.Ns mainGlobals mg) (c : (chkA K (adsOf K)).all id = true) (e : fnsA K (adsOf K) = fvals) :
    Txt K mg (adsOf K) ∧ ∀ (s : Shared) (v : Value), BindsTo s (adsOf K).d_law ⟨[v], []⟩ [("_law_numbers", v)] := by
  have z_abs : PySem.W.nsIn K mainGlobals "abs" = some none := pickD c 0
  have z_all : PySem.W.nsIn K mainGlobals "all" = some none := pickD c 1
  have z_any : PySem.W.nsIn K mainGlobals "any" = some none := pickD c 2
  have z_divmod : PySem.W.nsIn K mainGlobals "divmod" = some none := pickD c 3
  have z_enumerate : PySem.W.nsIn K mainGlobals "enumerate" = some none := pickD c 4
  have z_int : PySem.W.nsIn K mainGlobals "int" = some none := pickD c 5
  have z_isinstance : PySem.W.nsIn K mainGlobals "isinstance" = some none := pickD c 6
  have z_len : PySem.W.nsIn K mainGlobals "len" = some none := pickD c 7
  have z_list : PySem.W.nsIn K mainGlobals "list" = some none := pickD c 8
  have z_max : PySem.W.nsIn K mainGlobals "max" = some none := pickD c 9
  have z_min : PySem.W.nsIn K mainGlobals "min" = some none := pickD c 10
  have z_property : PySem.W.nsIn K mainGlobals "property" = some none := pickD c 11
  have z_range : PySem.W.nsIn K mainGlobals "range" = some none := pickD c 12
  have z_repr : PySem.W.nsIn K mainGlobals "repr" = some none := pickD c 13
  have z_reversed : PySem.W.nsIn K mainGlobals "reversed" = some none := pickD c 14
  have z_set : PySem.W.nsIn K mainGlobals "set" = some none := pickD c 15
  have z_sorted : PySem.W.nsIn K mainGlobals "sorted" = some none := pickD c 16
  have z_str : PySem.W.nsIn K mainGlobals "str" = some none := pickD c 17
  have z_sum : PySem.W.nsIn K mainGlobals "sum" = some none := pickD c 18
  have z_super : PySem.W.nsIn K mainGlobals "super" = some none := pickD c 19
  have z_tuple : PySem.W.nsIn K mainGlobals "tuple" = some none := pickD c 20
  have q_LETTERS : PySem.W.nsIn K mainGlobals "LETTERS" = some (some (.str "abcdefghijklmnopqrstuvwxyz" (adsOf K).t_LETTERS)) := pickD c 21
  have q_SIGNS : PySem.W.nsIn K mainGlobals "SIGNS" = some (some (.str "abcdefghijklmnopqrstuvwxyz0123456789" (adsOf K).t_SIGNS)) := pickD c 22
  have q_NOTHING : PySem.W.nsIn K mainGlobals "NOTHING" = some (some (.str "nothing" (adsOf K).t_NOTHING)) := pickD c 23
  have q_YES : PySem.W.nsIn K mainGlobals "YES" = some (some (.str "yes" (adsOf K).t_YES)) := pickD c 24
  have q_LONGEST : PySem.W.nsIn K mainGlobals "LONGEST" = some (some (.int (8) (adsOf K).t_LONGEST)) := pickD c 25
  have q_ACTS : PySem.W.nsIn K mainGlobals "ACTS" = some (some (.ref (adsOf K).u_ACTS)) := pickD c 26
  have r_ACTS : tupSB K "ACTS" ["look", "put", "swap", "try", "joined"] = true := pick c 27
  have q_MAX_CELLS : PySem.W.nsIn K mainGlobals "MAX_CELLS" = some (some (.int (3) (adsOf K).t_MAX_CELLS)) := pickD c 28
  have q_MAX_PARAMETERS : PySem.W.nsIn K mainGlobals "MAX_PARAMETERS" = some (some (.int (2) (adsOf K).t_MAX_PARAMETERS)) := pickD c 29
  have q_MAX_SLOTS : PySem.W.nsIn K mainGlobals "MAX_SLOTS" = some (some (.int (3) (adsOf K).t_MAX_SLOTS)) := pickD c 30
  have q_MAX_STEPS : PySem.W.nsIn K mainGlobals "MAX_STEPS" = some (some (.int (12) (adsOf K).t_MAX_STEPS)) := pickD c 31
  have q_MAX_STATEMENTS : PySem.W.nsIn K mainGlobals "MAX_STATEMENTS" = some (some (.int (40) (adsOf K).t_MAX_STATEMENTS)) := pickD c 32
  have q_MAX_LEVEL : PySem.W.nsIn K mainGlobals "MAX_LEVEL" = some (some (.int (5) (adsOf K).t_MAX_LEVEL)) := pickD c 33
  have q_STEPS : PySem.W.nsIn K mainGlobals "STEPS" = some (some (.ref (adsOf K).u_STEPS)) := pickD c 34
  have r_STEPS : tupSB K "STEPS" ["look", "put", "swap", "try", "joined"] = true := pick c 35
  have q_TOGETHER : PySem.W.nsIn K mainGlobals "TOGETHER" = some (some (.ref (adsOf K).u_TOGETHER)) := pickD c 36
  have r_TOGETHER : tupSB K "TOGETHER" ["look", "put", "swap", "try", "let", "if"] = true := pick c 37
  have a_Statement : PySem.W.nsIn K mainGlobals "Statement" = some (some (.ref (adsOf K).c_Statement)) := pickD c 38
  have a_Look : PySem.W.nsIn K mainGlobals "Look" = some (some (.ref (adsOf K).c_Look)) := pickD c 39
  have a_Put : PySem.W.nsIn K mainGlobals "Put" = some (some (.ref (adsOf K).c_Put)) := pickD c 40
  have a_Swap : PySem.W.nsIn K mainGlobals "Swap" = some (some (.ref (adsOf K).c_Swap)) := pickD c 41
  have a_Try : PySem.W.nsIn K mainGlobals "Try" = some (some (.ref (adsOf K).c_Try)) := pickD c 42
  have a_Let : PySem.W.nsIn K mainGlobals "Let" = some (some (.ref (adsOf K).c_Let)) := pickD c 43
  have a_If : PySem.W.nsIn K mainGlobals "If" = some (some (.ref (adsOf K).c_If)) := pickD c 44
  have a_Loop : PySem.W.nsIn K mainGlobals "Loop" = some (some (.ref (adsOf K).c_Loop)) := pickD c 45
  have a_Leave : PySem.W.nsIn K mainGlobals "Leave" = some (some (.ref (adsOf K).c_Leave)) := pickD c 46
  have a_Return : PySem.W.nsIn K mainGlobals "Return" = some (some (.ref (adsOf K).c_Return)) := pickD c 47
  have a_Joined : PySem.W.nsIn K mainGlobals "Joined" = some (some (.ref (adsOf K).c_Joined)) := pickD c 48
  have a_Call : PySem.W.nsIn K mainGlobals "Call" = some (some (.ref (adsOf K).c_Call)) := pickD c 49
  have zopq : PySem.W.nsIn K cStatics "thirdparty.any" = some none := pickD c 50
  have ztop : (P.main.scope.names.lookup ("super" : Str)).isSome = false := by kernel_rfl
  have a0 : PySem.W.nsIn K mainGlobals "is_name" = some (some (.ref (adsOf K).a_is_name)) := pickD c 51
  have s0 : fnB K (adsOf K).a_is_name "is_name" = true := pick c 52
  have F0 : Fun K "is_name" "is_name" st_is_name (adsOf K).a_is_name (adsOf K).d_is_name := fun_of (pickF e 0) s0
  have a1 : PySem.W.nsIn K mainGlobals "is_operand" = some (some (.ref (adsOf K).a_is_operand)) := pickD c 53
  have s1 : fnB K (adsOf K).a_is_operand "is_operand" = true := pick c 54
  have F1 : Fun K "is_operand" "is_operand" st_is_operand (adsOf K).a_is_operand (adsOf K).d_is_operand := fun_of (pickF e 1) s1
  have a2 : PySem.W.nsIn K mainGlobals "check_name" = some (some (.ref (adsOf K).a_check_name)) := pickD c 55
  have s2 : fnB K (adsOf K).a_check_name "check_name" = true := pick c 56
  have F2 : Fun K "check_name" "check_name" st_check_name (adsOf K).a_check_name (adsOf K).d_check_name := fun_of (pickF e 2) s2
  have a3 : PySem.W.nsIn K mainGlobals "check_operand" = some (some (.ref (adsOf K).a_check_operand)) := pickD c 57
  have s3 : fnB K (adsOf K).a_check_operand "check_operand" = true := pick c 58
  have F3 : Fun K "check_operand" "check_operand" st_check_operand (adsOf K).a_check_operand (adsOf K).d_check_operand := fun_of (pickF e 3) s3
  have a4 : PySem.W.nsIn K mainGlobals "coded" = some (some (.ref (adsOf K).a_coded)) := pickD c 59
  have s4 : fnB K (adsOf K).a_coded "coded" = true := pick c 60
  have F4 : Fun K "coded" "coded" st_coded (adsOf K).a_coded (adsOf K).d_coded := fun_of (pickF e 4) s4
  have a5 : PySem.W.nsIn K mainGlobals "coded_rows" = some (some (.ref (adsOf K).a_coded_rows)) := pickD c 61
  have s5 : fnB K (adsOf K).a_coded_rows "coded_rows" = true := pick c 62
  have F5 : Fun K "coded_rows" "coded_rows" st_coded_rows (adsOf K).a_coded_rows (adsOf K).d_coded_rows := fun_of (pickF e 5) s5
  have a6 : PySem.W.nsIn K mainGlobals "moved" = some (some (.ref (adsOf K).a_moved)) := pickD c 63
  have s6 : fnB K (adsOf K).a_moved "moved" = true := pick c 64
  have F6 : Fun K "moved" "moved" st_moved (adsOf K).a_moved (adsOf K).d_moved := fun_of (pickF e 6) s6
  have a7 : PySem.W.nsIn K mainGlobals "rows_of" = some (some (.ref (adsOf K).a_rows_of)) := pickD c 65
  have s7 : fnB K (adsOf K).a_rows_of "rows_of" = true := pick c 66
  have F7 : Fun K "rows_of" "rows_of" st_rows_of (adsOf K).a_rows_of (adsOf K).d_rows_of := fun_of (pickF e 7) s7
  have a8 : PySem.W.nsIn K mainGlobals "parts_of_row" = some (some (.ref (adsOf K).a_parts_of_row)) := pickD c 67
  have s8 : fnB K (adsOf K).a_parts_of_row "parts_of_row" = true := pick c 68
  have F8 : Fun K "parts_of_row" "parts_of_row" st_parts_of_row (adsOf K).a_parts_of_row (adsOf K).d_parts_of_row := fun_of (pickF e 8) s8
  have a9 : PySem.W.nsIn K mainGlobals "place_of" = some (some (.ref (adsOf K).a_place_of)) := pickD c 69
  have s9 : fnB K (adsOf K).a_place_of "place_of" = true := pick c 70
  have F9 : Fun K "place_of" "place_of" st_place_of (adsOf K).a_place_of (adsOf K).d_place_of := fun_of (pickF e 9) s9
  have a10 : PySem.W.findIn K (.ref (adsOf K).c_Statement) "__init__" = some (some (.ref (adsOf K).a_Statement___init__)) := pickD c 71
  have i10 : PySem.W.isFn K (.ref (adsOf K).a_Statement___init__) = true := pick c 72
  have s10 : fnDB K (adsOf K).a_Statement___init__ "Statement.__init__" [true, true, true] = true := pick c 73
  obtain ⟨F10, ⟨_, _, L10, O10⟩, E10⟩ := funV_of (pickF e 10) s10
  have fi10 : PySem.W.fnIn K (adsOf K).a_Statement___init__ = true := pickD c 74
  have ft10 : PySem.W.typeIn K (.ref (adsOf K).a_Statement___init__) = some (.type "function") := pickD c 75
  have a11 : PySem.W.findIn K (.ref (adsOf K).c_Statement) "amount" = some (some (.ref (adsOf K).p_Statement_amount)) := pickD c 76
  have pr11 : prB K (adsOf K).p_Statement_amount = true := pick c 77
  have s11 : fnB K (adsOf K).a_Statement_amount "Statement.amount" = true := pick c 78
  have F11 : Fun K "amount" "Statement.amount" st_Statement_amount (adsOf K).a_Statement_amount (adsOf K).d_Statement_amount := fun_of (pickF e 11) s11
  have a12 : PySem.W.findIn K (.ref (adsOf K).c_Statement) "level" = some (some (.ref (adsOf K).p_Statement_level)) := pickD c 79
  have pr12 : prB K (adsOf K).p_Statement_level = true := pick c 80
  have s12 : fnB K (adsOf K).a_Statement_level "Statement.level" = true := pick c 81
  have F12 : Fun K "level" "Statement.level" st_Statement_level (adsOf K).a_Statement_level (adsOf K).d_Statement_level := fun_of (pickF e 12) s12
  have a13 : PySem.W.findIn K (.ref (adsOf K).c_Statement) "__eq__" = some (some (.ref (adsOf K).a_Statement___eq__)) := pickD c 82
  have i13 : PySem.W.isFn K (.ref (adsOf K).a_Statement___eq__) = true := pick c 83
  have s13 : fnB K (adsOf K).a_Statement___eq__ "Statement.__eq__" = true := pick c 84
  have F13 : Fun K "__eq__" "Statement.__eq__" st_Statement___eq__ (adsOf K).a_Statement___eq__ (adsOf K).d_Statement___eq__ := fun_of (pickF e 13) s13
  have a14 : PySem.W.findIn K (.ref (adsOf K).c_Statement) "__str__" = some (some (.ref (adsOf K).a_Statement___str__)) := pickD c 85
  have i14 : PySem.W.isFn K (.ref (adsOf K).a_Statement___str__) = true := pick c 86
  have s14 : fnB K (adsOf K).a_Statement___str__ "Statement.__str__" = true := pick c 87
  have F14 : Fun K "__str__" "Statement.__str__" st_Statement___str__ (adsOf K).a_Statement___str__ (adsOf K).d_Statement___str__ := fun_of (pickF e 14) s14
  have a15 : PySem.W.findIn K (.ref (adsOf K).c_Statement) "__repr__" = some (some (.ref (adsOf K).a_Statement___repr__)) := pickD c 88
  have i15 : PySem.W.isFn K (.ref (adsOf K).a_Statement___repr__) = true := pick c 89
  have s15 : fnB K (adsOf K).a_Statement___repr__ "Statement.__repr__" = true := pick c 90
  have F15 : Fun K "__repr__" "Statement.__repr__" st_Statement___repr__ (adsOf K).a_Statement___repr__ (adsOf K).d_Statement___repr__ := fun_of (pickF e 15) s15
  have a16 : PySem.W.findIn K (.ref (adsOf K).c_Look) "__init__" = some (some (.ref (adsOf K).a_Look___init__)) := pickD c 91
  have i16 : PySem.W.isFn K (.ref (adsOf K).a_Look___init__) = true := pick c 92
  have s16 : sfnB P K (adsOf K).a_Look___init__ (adsOf K).c_Look "Look.__init__" = true := pick c 93
  have F16 : SFun P K "__init__" "Look.__init__" st_Look___init__ (adsOf K).a_Look___init__ (adsOf K).d_Look___init__ (adsOf K).cc_Look___init__ (adsOf K).c_Look := sfun_of (pickF e 16) s16 ztop zopq
  have nd16 : noDfl K (adsOf K).a_Look___init__ = true := pick c 94
  have N16 := sfunN_of F16 nd16
  have a17 : PySem.W.findIn K (.ref (adsOf K).c_Put) "__init__" = some (some (.ref (adsOf K).a_Put___init__)) := pickD c 95
  have i17 : PySem.W.isFn K (.ref (adsOf K).a_Put___init__) = true := pick c 96
  have s17 : sfnB P K (adsOf K).a_Put___init__ (adsOf K).c_Put "Put.__init__" = true := pick c 97
  have F17 : SFun P K "__init__" "Put.__init__" st_Put___init__ (adsOf K).a_Put___init__ (adsOf K).d_Put___init__ (adsOf K).cc_Put___init__ (adsOf K).c_Put := sfun_of (pickF e 17) s17 ztop zopq
  have nd17 : noDfl K (adsOf K).a_Put___init__ = true := pick c 98
  have N17 := sfunN_of F17 nd17
  have a18 : PySem.W.findIn K (.ref (adsOf K).c_Swap) "__init__" = some (some (.ref (adsOf K).a_Swap___init__)) := pickD c 99
  have i18 : PySem.W.isFn K (.ref (adsOf K).a_Swap___init__) = true := pick c 100
  have s18 : sfnB P K (adsOf K).a_Swap___init__ (adsOf K).c_Swap "Swap.__init__" = true := pick c 101
  have F18 : SFun P K "__init__" "Swap.__init__" st_Swap___init__ (adsOf K).a_Swap___init__ (adsOf K).d_Swap___init__ (adsOf K).cc_Swap___init__ (adsOf K).c_Swap := sfun_of (pickF e 18) s18 ztop zopq
  have nd18 : noDfl K (adsOf K).a_Swap___init__ = true := pick c 102
  have N18 := sfunN_of F18 nd18
  have a19 : PySem.W.findIn K (.ref (adsOf K).c_Try) "__init__" = some (some (.ref (adsOf K).a_Try___init__)) := pickD c 103
  have i19 : PySem.W.isFn K (.ref (adsOf K).a_Try___init__) = true := pick c 104
  have s19 : sfnB P K (adsOf K).a_Try___init__ (adsOf K).c_Try "Try.__init__" = true := pick c 105
  have F19 : SFun P K "__init__" "Try.__init__" st_Try___init__ (adsOf K).a_Try___init__ (adsOf K).d_Try___init__ (adsOf K).cc_Try___init__ (adsOf K).c_Try := sfun_of (pickF e 19) s19 ztop zopq
  have nd19 : noDfl K (adsOf K).a_Try___init__ = true := pick c 106
  have N19 := sfunN_of F19 nd19
  have a20 : PySem.W.findIn K (.ref (adsOf K).c_Let) "__init__" = some (some (.ref (adsOf K).a_Let___init__)) := pickD c 107
  have i20 : PySem.W.isFn K (.ref (adsOf K).a_Let___init__) = true := pick c 108
  have s20 : sfnB P K (adsOf K).a_Let___init__ (adsOf K).c_Let "Let.__init__" = true := pick c 109
  have F20 : SFun P K "__init__" "Let.__init__" st_Let___init__ (adsOf K).a_Let___init__ (adsOf K).d_Let___init__ (adsOf K).cc_Let___init__ (adsOf K).c_Let := sfun_of (pickF e 20) s20 ztop zopq
  have nd20 : noDfl K (adsOf K).a_Let___init__ = true := pick c 110
  have N20 := sfunN_of F20 nd20
  have a21 : PySem.W.findIn K (.ref (adsOf K).c_If) "__init__" = some (some (.ref (adsOf K).a_If___init__)) := pickD c 111
  have i21 : PySem.W.isFn K (.ref (adsOf K).a_If___init__) = true := pick c 112
  have s21 : sfnB P K (adsOf K).a_If___init__ (adsOf K).c_If "If.__init__" = true := pick c 113
  have F21 : SFun P K "__init__" "If.__init__" st_If___init__ (adsOf K).a_If___init__ (adsOf K).d_If___init__ (adsOf K).cc_If___init__ (adsOf K).c_If := sfun_of (pickF e 21) s21 ztop zopq
  have sd21 : sdflB K (adsOf K).a_If___init__ [true] = true := pick c 114
  obtain ⟨G21, ⟨_, _, L21, O21⟩, E21⟩ := sdfl_of F21 sd21
  have a22 : PySem.W.findIn K (.ref (adsOf K).c_Loop) "__init__" = some (some (.ref (adsOf K).a_Loop___init__)) := pickD c 115
  have i22 : PySem.W.isFn K (.ref (adsOf K).a_Loop___init__) = true := pick c 116
  have s22 : sfnB P K (adsOf K).a_Loop___init__ (adsOf K).c_Loop "Loop.__init__" = true := pick c 117
  have F22 : SFun P K "__init__" "Loop.__init__" st_Loop___init__ (adsOf K).a_Loop___init__ (adsOf K).d_Loop___init__ (adsOf K).cc_Loop___init__ (adsOf K).c_Loop := sfun_of (pickF e 22) s22 ztop zopq
  have nd22 : noDfl K (adsOf K).a_Loop___init__ = true := pick c 118
  have N22 := sfunN_of F22 nd22
  have a23 : PySem.W.findIn K (.ref (adsOf K).c_Leave) "__init__" = some (some (.ref (adsOf K).a_Leave___init__)) := pickD c 119
  have i23 : PySem.W.isFn K (.ref (adsOf K).a_Leave___init__) = true := pick c 120
  have s23 : sfnB P K (adsOf K).a_Leave___init__ (adsOf K).c_Leave "Leave.__init__" = true := pick c 121
  have F23 : SFun P K "__init__" "Leave.__init__" st_Leave___init__ (adsOf K).a_Leave___init__ (adsOf K).d_Leave___init__ (adsOf K).cc_Leave___init__ (adsOf K).c_Leave := sfun_of (pickF e 23) s23 ztop zopq
  have nd23 : noDfl K (adsOf K).a_Leave___init__ = true := pick c 122
  have N23 := sfunN_of F23 nd23
  have a24 : PySem.W.findIn K (.ref (adsOf K).c_Return) "__init__" = some (some (.ref (adsOf K).a_Return___init__)) := pickD c 123
  have i24 : PySem.W.isFn K (.ref (adsOf K).a_Return___init__) = true := pick c 124
  have s24 : sfnB P K (adsOf K).a_Return___init__ (adsOf K).c_Return "Return.__init__" = true := pick c 125
  have F24 : SFun P K "__init__" "Return.__init__" st_Return___init__ (adsOf K).a_Return___init__ (adsOf K).d_Return___init__ (adsOf K).cc_Return___init__ (adsOf K).c_Return := sfun_of (pickF e 24) s24 ztop zopq
  have nd24 : noDfl K (adsOf K).a_Return___init__ = true := pick c 126
  have N24 := sfunN_of F24 nd24
  have a25 : PySem.W.findIn K (.ref (adsOf K).c_Joined) "__init__" = some (some (.ref (adsOf K).a_Joined___init__)) := pickD c 127
  have i25 : PySem.W.isFn K (.ref (adsOf K).a_Joined___init__) = true := pick c 128
  have s25 : sfnB P K (adsOf K).a_Joined___init__ (adsOf K).c_Joined "Joined.__init__" = true := pick c 129
  have F25 : SFun P K "__init__" "Joined.__init__" st_Joined___init__ (adsOf K).a_Joined___init__ (adsOf K).d_Joined___init__ (adsOf K).cc_Joined___init__ (adsOf K).c_Joined := sfun_of (pickF e 25) s25 ztop zopq
  have nd25 : noDfl K (adsOf K).a_Joined___init__ = true := pick c 130
  have N25 := sfunN_of F25 nd25
  have a26 : PySem.W.nsIn K mainGlobals "indented" = some (some (.ref (adsOf K).a_indented)) := pickD c 131
  have s26 : fnB K (adsOf K).a_indented "indented" = true := pick c 132
  have F26 : Fun K "indented" "indented" st_indented (adsOf K).a_indented (adsOf K).d_indented := fun_of (pickF e 26) s26
  have a27 : PySem.W.nsIn K mainGlobals "goes_together" = some (some (.ref (adsOf K).a_goes_together)) := pickD c 133
  have s27 : fnB K (adsOf K).a_goes_together "goes_together" = true := pick c 134
  have F27 : Fun K "goes_together" "goes_together" st_goes_together (adsOf K).a_goes_together (adsOf K).d_goes_together := fun_of (pickF e 27) s27
  have a28 : PySem.W.nsIn K mainGlobals "check_body" = some (some (.ref (adsOf K).a_check_body)) := pickD c 135
  have s28 : fnB K (adsOf K).a_check_body "check_body" = true := pick c 136
  have F28 : Fun K "check_body" "check_body" st_check_body (adsOf K).a_check_body (adsOf K).d_check_body := fun_of (pickF e 28) s28
  have a29 : PySem.W.nsIn K mainGlobals "check_joined" = some (some (.ref (adsOf K).a_check_joined)) := pickD c 137
  have s29 : fnB K (adsOf K).a_check_joined "check_joined" = true := pick c 138
  have F29 : Fun K "check_joined" "check_joined" st_check_joined (adsOf K).a_check_joined (adsOf K).d_check_joined := fun_of (pickF e 29) s29
  have a30 : PySem.W.nsIn K mainGlobals "all_in" = some (some (.ref (adsOf K).a_all_in)) := pickD c 139
  have s30 : fnB K (adsOf K).a_all_in "all_in" = true := pick c 140
  have F30 : Fun K "all_in" "all_in" st_all_in (adsOf K).a_all_in (adsOf K).d_all_in := fun_of (pickF e 30) s30
  have a31 : PySem.W.nsIn K mainGlobals "steps_in" = some (some (.ref (adsOf K).a_steps_in)) := pickD c 141
  have s31 : fnB K (adsOf K).a_steps_in "steps_in" = true := pick c 142
  have F31 : Fun K "steps_in" "steps_in" st_steps_in (adsOf K).a_steps_in (adsOf K).d_steps_in := fun_of (pickF e 31) s31
  have a32 : PySem.W.nsIn K mainGlobals "leaves_outside" = some (some (.ref (adsOf K).a_leaves_outside)) := pickD c 143
  have s32 : fnB K (adsOf K).a_leaves_outside "leaves_outside" = true := pick c 144
  have F32 : Fun K "leaves_outside" "leaves_outside" st_leaves_outside (adsOf K).a_leaves_outside (adsOf K).d_leaves_outside := fun_of (pickF e 32) s32
  have a33 : PySem.W.findIn K (.ref (adsOf K).c_Call) "__init__" = some (some (.ref (adsOf K).a_Call___init__)) := pickD c 145
  have i33 : PySem.W.isFn K (.ref (adsOf K).a_Call___init__) = true := pick c 146
  have s33 : fnB K (adsOf K).a_Call___init__ "Call.__init__" = true := pick c 147
  have F33 : Fun K "__init__" "Call.__init__" st_Call___init__ (adsOf K).a_Call___init__ (adsOf K).d_Call___init__ := fun_of (pickF e 33) s33
  have a34 : PySem.W.findIn K (.ref (adsOf K).c_Call) "cells" = some (some (.ref (adsOf K).p_Call_cells)) := pickD c 148
  have pr34 : prB K (adsOf K).p_Call_cells = true := pick c 149
  have s34 : fnB K (adsOf K).a_Call_cells "Call.cells" = true := pick c 150
  have F34 : Fun K "cells" "Call.cells" st_Call_cells (adsOf K).a_Call_cells (adsOf K).d_Call_cells := fun_of (pickF e 34) s34
  have a35 : PySem.W.findIn K (.ref (adsOf K).c_Call) "steps" = some (some (.ref (adsOf K).p_Call_steps)) := pickD c 151
  have pr35 : prB K (adsOf K).p_Call_steps = true := pick c 152
  have s35 : fnB K (adsOf K).a_Call_steps "Call.steps" = true := pick c 153
  have F35 : Fun K "steps" "Call.steps" st_Call_steps (adsOf K).a_Call_steps (adsOf K).d_Call_steps := fun_of (pickF e 35) s35
  have a36 : PySem.W.findIn K (.ref (adsOf K).c_Call) "lines" = some (some (.ref (adsOf K).p_Call_lines)) := pickD c 154
  have pr36 : prB K (adsOf K).p_Call_lines = true := pick c 155
  have s36 : fnB K (adsOf K).a_Call_lines "Call.lines" = true := pick c 156
  have F36 : Fun K "lines" "Call.lines" st_Call_lines (adsOf K).a_Call_lines (adsOf K).d_Call_lines := fun_of (pickF e 36) s36
  have a37 : PySem.W.findIn K (.ref (adsOf K).c_Call) "__eq__" = some (some (.ref (adsOf K).a_Call___eq__)) := pickD c 157
  have i37 : PySem.W.isFn K (.ref (adsOf K).a_Call___eq__) = true := pick c 158
  have s37 : fnB K (adsOf K).a_Call___eq__ "Call.__eq__" = true := pick c 159
  have F37 : Fun K "__eq__" "Call.__eq__" st_Call___eq__ (adsOf K).a_Call___eq__ (adsOf K).d_Call___eq__ := fun_of (pickF e 37) s37
  have a38 : PySem.W.findIn K (.ref (adsOf K).c_Call) "__str__" = some (some (.ref (adsOf K).a_Call___str__)) := pickD c 160
  have i38 : PySem.W.isFn K (.ref (adsOf K).a_Call___str__) = true := pick c 161
  have s38 : fnB K (adsOf K).a_Call___str__ "Call.__str__" = true := pick c 162
  have F38 : Fun K "__str__" "Call.__str__" st_Call___str__ (adsOf K).a_Call___str__ (adsOf K).d_Call___str__ := fun_of (pickF e 38) s38
  have a39 : PySem.W.findIn K (.ref (adsOf K).c_Call) "__repr__" = some (some (.ref (adsOf K).a_Call___repr__)) := pickD c 163
  have i39 : PySem.W.isFn K (.ref (adsOf K).a_Call___repr__) = true := pick c 164
  have s39 : fnB K (adsOf K).a_Call___repr__ "Call.__repr__" = true := pick c 165
  have F39 : Fun K "__repr__" "Call.__repr__" st_Call___repr__ (adsOf K).a_Call___repr__ (adsOf K).d_Call___repr__ := fun_of (pickF e 39) s39
  have a40 : PySem.W.nsIn K mainGlobals "check_parameters" = some (some (.ref (adsOf K).a_check_parameters)) := pickD c 166
  have s40 : fnB K (adsOf K).a_check_parameters "check_parameters" = true := pick c 167
  have F40 : Fun K "check_parameters" "check_parameters" st_check_parameters (adsOf K).a_check_parameters (adsOf K).d_check_parameters := fun_of (pickF e 40) s40
  have a41 : PySem.W.nsIn K mainGlobals "slots_of" = some (some (.ref (adsOf K).a_slots_of)) := pickD c 168
  have s41 : fnB K (adsOf K).a_slots_of "slots_of" = true := pick c 169
  have F41 : Fun K "slots_of" "slots_of" st_slots_of (adsOf K).a_slots_of (adsOf K).d_slots_of := fun_of (pickF e 41) s41
  have a42 : PySem.W.nsIn K mainGlobals "check_limits" = some (some (.ref (adsOf K).a_check_limits)) := pickD c 170
  have s42 : fnB K (adsOf K).a_check_limits "check_limits" = true := pick c 171
  have F42 : Fun K "check_limits" "check_limits" st_check_limits (adsOf K).a_check_limits (adsOf K).d_check_limits := fun_of (pickF e 42) s42
  have a43 : PySem.W.nsIn K mainGlobals "_law_number" = some (some (.ref (adsOf K).a_law_number)) := pickD c 172
  have s43 : fnB K (adsOf K).a_law_number "_law_number" = true := pick c 173
  have F43 : Fun K "_law_number" "_law_number" st_law_number (adsOf K).a_law_number (adsOf K).d_law_number := fun_of (pickF e 43) s43
  have a44 : PySem.W.nsIn K mainGlobals "_law_source" = some (some (.ref (adsOf K).a_law_source)) := pickD c 174
  have s44 : fnB K (adsOf K).a_law_source "_law_source" = true := pick c 175
  have F44 : Fun K "_law_source" "_law_source" st_law_source (adsOf K).a_law_source (adsOf K).d_law_source := fun_of (pickF e 44) s44
  have a45 : PySem.W.nsIn K mainGlobals "_law_take" = some (some (.ref (adsOf K).a_law_take)) := pickD c 176
  have s45 : fnB K (adsOf K).a_law_take "_law_take" = true := pick c 177
  have F45 : Fun K "_law_take" "_law_take" st_law_take (adsOf K).a_law_take (adsOf K).d_law_take := fun_of (pickF e 45) s45
  have a46 : PySem.W.nsIn K mainGlobals "_law_word" = some (some (.ref (adsOf K).a_law_word)) := pickD c 178
  have s46 : fnB K (adsOf K).a_law_word "_law_word" = true := pick c 179
  have F46 : Fun K "_law_word" "_law_word" st_law_word (adsOf K).a_law_word (adsOf K).d_law_word := fun_of (pickF e 46) s46
  have a47 : PySem.W.nsIn K mainGlobals "_law_words" = some (some (.ref (adsOf K).a_law_words)) := pickD c 180
  have s47 : fnB K (adsOf K).a_law_words "_law_words" = true := pick c 181
  have F47 : Fun K "_law_words" "_law_words" st_law_words (adsOf K).a_law_words (adsOf K).d_law_words := fun_of (pickF e 47) s47
  have a48 : PySem.W.nsIn K mainGlobals "_law_head" = some (some (.ref (adsOf K).a_law_head)) := pickD c 182
  have s48 : fnB K (adsOf K).a_law_head "_law_head" = true := pick c 183
  have F48 : Fun K "_law_head" "_law_head" st_law_head (adsOf K).a_law_head (adsOf K).d_law_head := fun_of (pickF e 48) s48
  have a49 : PySem.W.nsIn K mainGlobals "_law_bodies" = some (some (.ref (adsOf K).a_law_bodies)) := pickD c 184
  have s49 : fnB K (adsOf K).a_law_bodies "_law_bodies" = true := pick c 185
  have F49 : Fun K "_law_bodies" "_law_bodies" st_law_bodies (adsOf K).a_law_bodies (adsOf K).d_law_bodies := fun_of (pickF e 49) s49
  have a50 : PySem.W.nsIn K mainGlobals "_law_lines" = some (some (.ref (adsOf K).a_law_lines)) := pickD c 186
  have s50 : fnB K (adsOf K).a_law_lines "_law_lines" = true := pick c 187
  have F50 : Fun K "_law_lines" "_law_lines" st_law_lines (adsOf K).a_law_lines (adsOf K).d_law_lines := fun_of (pickF e 50) s50
  have a51 : PySem.W.nsIn K mainGlobals "_law_paper" = some (some (.ref (adsOf K).a_law_paper)) := pickD c 188
  have s51 : fnB K (adsOf K).a_law_paper "_law_paper" = true := pick c 189
  have F51 : Fun K "_law_paper" "_law_paper" st_law_paper (adsOf K).a_law_paper (adsOf K).d_law_paper := fun_of (pickF e 51) s51
  have a52 : PySem.W.nsIn K mainGlobals "_law_made" = some (some (.ref (adsOf K).a_law_made)) := pickD c 190
  have s52 : fnB K (adsOf K).a_law_made "_law_made" = true := pick c 191
  have F52 : Fun K "_law_made" "_law_made" st_law_made (adsOf K).a_law_made (adsOf K).d_law_made := fun_of (pickF e 52) s52
  have a53 : PySem.W.nsIn K mainGlobals "_law_holding" = some (some (.ref (adsOf K).a_law_holding)) := pickD c 192
  have s53 : fnB K (adsOf K).a_law_holding "_law_holding" = true := pick c 193
  have F53 : Fun K "_law_holding" "_law_holding" st_law_holding (adsOf K).a_law_holding (adsOf K).d_law_holding := fun_of (pickF e 53) s53
  have a54 : PySem.W.nsIn K mainGlobals "_law_size" = some (some (.ref (adsOf K).a_law_size)) := pickD c 194
  have s54 : fnB K (adsOf K).a_law_size "_law_size" = true := pick c 195
  have F54 : Fun K "_law_size" "_law_size" st_law_size (adsOf K).a_law_size (adsOf K).d_law_size := fun_of (pickF e 54) s54
  have a55 : PySem.W.nsIn K mainGlobals "_law_paces" = some (some (.ref (adsOf K).a_law_paces)) := pickD c 196
  have s55 : fnB K (adsOf K).a_law_paces "_law_paces" = true := pick c 197
  have F55 : Fun K "_law_paces" "_law_paces" st_law_paces (adsOf K).a_law_paces (adsOf K).d_law_paces := fun_of (pickF e 55) s55
  have a56 : PySem.W.nsIn K mainGlobals "_law_line" = some (some (.ref (adsOf K).a_law_line)) := pickD c 198
  have s56 : fnB K (adsOf K).a_law_line "_law_line" = true := pick c 199
  have F56 : Fun K "_law_line" "_law_line" st_law_line (adsOf K).a_law_line (adsOf K).d_law_line := fun_of (pickF e 56) s56
  have a57 : PySem.W.nsIn K mainGlobals "_law_operand" = some (some (.ref (adsOf K).a_law_operand)) := pickD c 200
  have s57 : fnB K (adsOf K).a_law_operand "_law_operand" = true := pick c 201
  have F57 : Fun K "_law_operand" "_law_operand" st_law_operand (adsOf K).a_law_operand (adsOf K).d_law_operand := fun_of (pickF e 57) s57
  have a58 : PySem.W.nsIn K mainGlobals "_law_statement" = some (some (.ref (adsOf K).a_law_statement)) := pickD c 202
  have s58 : fnB K (adsOf K).a_law_statement "_law_statement" = true := pick c 203
  have F58 : Fun K "_law_statement" "_law_statement" st_law_statement (adsOf K).a_law_statement (adsOf K).d_law_statement := fun_of (pickF e 58) s58
  have a59 : PySem.W.nsIn K mainGlobals "_law_body" = some (some (.ref (adsOf K).a_law_body)) := pickD c 204
  have s59 : fnB K (adsOf K).a_law_body "_law_body" = true := pick c 205
  have F59 : Fun K "_law_body" "_law_body" st_law_body (adsOf K).a_law_body (adsOf K).d_law_body := fun_of (pickF e 59) s59
  have a60 : PySem.W.nsIn K mainGlobals "_law_fitting" = some (some (.ref (adsOf K).a_law_fitting)) := pickD c 206
  have s60 : fnB K (adsOf K).a_law_fitting "_law_fitting" = true := pick c 207
  have F60 : Fun K "_law_fitting" "_law_fitting" st_law_fitting (adsOf K).a_law_fitting (adsOf K).d_law_fitting := fun_of (pickF e 60) s60
  have a61 : PySem.W.nsIn K mainGlobals "_law_call" = some (some (.ref (adsOf K).a_law_call)) := pickD c 208
  have s61 : fnB K (adsOf K).a_law_call "_law_call" = true := pick c 209
  have F61 : Fun K "_law_call" "_law_call" st_law_call (adsOf K).a_law_call (adsOf K).d_law_call := fun_of (pickF e 61) s61
  have a62 : PySem.W.nsIn K mainGlobals "_law_all" = some (some (.ref (adsOf K).a_law_all)) := pickD c 210
  have s62 : fnB K (adsOf K).a_law_all "_law_all" = true := pick c 211
  have F62 : Fun K "_law_all" "_law_all" st_law_all (adsOf K).a_law_all (adsOf K).d_law_all := fun_of (pickF e 62) s62
  have a63 : PySem.W.nsIn K mainGlobals "_law_rooms" = some (some (.ref (adsOf K).a_law_rooms)) := pickD c 212
  have s63 : fnB K (adsOf K).a_law_rooms "_law_rooms" = true := pick c 213
  have F63 : Fun K "_law_rooms" "_law_rooms" st_law_rooms (adsOf K).a_law_rooms (adsOf K).d_law_rooms := fun_of (pickF e 63) s63
  have a64 : PySem.W.nsIn K mainGlobals "_law_slots" = some (some (.ref (adsOf K).a_law_slots)) := pickD c 214
  have s64 : fnB K (adsOf K).a_law_slots "_law_slots" = true := pick c 215
  have F64 : Fun K "_law_slots" "_law_slots" st_law_slots (adsOf K).a_law_slots (adsOf K).d_law_slots := fun_of (pickF e 64) s64
  have a65 : PySem.W.nsIn K mainGlobals "_law_shows" = some (some (.ref (adsOf K).a_law_shows)) := pickD c 216
  have s65 : fnB K (adsOf K).a_law_shows "_law_shows" = true := pick c 217
  have F65 : Fun K "_law_shows" "_law_shows" st_law_shows (adsOf K).a_law_shows (adsOf K).d_law_shows := fun_of (pickF e 65) s65
  have a66 : PySem.W.nsIn K mainGlobals "_law_built" = some (some (.ref (adsOf K).a_law_built)) := pickD c 218
  have s66 : fnB K (adsOf K).a_law_built "_law_built" = true := pick c 219
  have F66 : Fun K "_law_built" "_law_built" st_law_built (adsOf K).a_law_built (adsOf K).d_law_built := fun_of (pickF e 66) s66
  have a67 : PySem.W.nsIn K mainGlobals "_law_mates" = some (some (.ref (adsOf K).a_law_mates)) := pickD c 220
  have s67 : fnB K (adsOf K).a_law_mates "_law_mates" = true := pick c 221
  have F67 : Fun K "_law_mates" "_law_mates" st_law_mates (adsOf K).a_law_mates (adsOf K).d_law_mates := fun_of (pickF e 67) s67
  have a68 : PySem.W.nsIn K mainGlobals "_law_right" = some (some (.ref (adsOf K).a_law_right)) := pickD c 222
  have s68 : fnB K (adsOf K).a_law_right "_law_right" = true := pick c 223
  have F68 : Fun K "_law_right" "_law_right" st_law_right (adsOf K).a_law_right (adsOf K).d_law_right := fun_of (pickF e 68) s68
  have a69 : PySem.W.nsIn K mainGlobals "_law_shared_right" = some (some (.ref (adsOf K).a_law_shared_right)) := pickD c 224
  have s69 : fnB K (adsOf K).a_law_shared_right "_law_shared_right" = true := pick c 225
  have F69 : Fun K "_law_shared_right" "_law_shared_right" st_law_shared_right (adsOf K).a_law_shared_right (adsOf K).d_law_shared_right := fun_of (pickF e 69) s69
  have a70 : PySem.W.nsIn K mainGlobals "law" = some (some (.ref (adsOf K).a_law)) := pickD c 226
  have s70 : fnB K (adsOf K).a_law "law" = true := pick c 227
  have F70 : Fun K "law" "law" st_law (adsOf K).a_law (adsOf K).d_law := fun_of (pickF e 70) s70
  have xg_ : PySem.W.specialIn K (.builtin "object.__class__") "__get__" = some (some (.builtin "getset_descriptor.__get__")) := pickD c 228
  have xt_ : PySem.W.takesIn K (.builtin "object.__class__") = some true := pickD c 229
  have fb_ : famChk K (adsOf K).c_Statement famAttrs = true := pick c 230
  have fc_ : ((adsOf K).fam.all fun C => famChk K C famAttrs) = true := pick c 231
  have fam : ∀ C ∈ (adsOf K).fam, FamC K C famAttrs := fun C h => famC_of (List.all_eq_true.mp fc_ C h) xg_ xt_
  have ft_ : tabChk K (adsOf K).fam = true := pick c 232
  have fu_ : ((adsOf K).fam.all fun C => (PySem.W.mroIn K C (.ref (adsOf K).c_Statement) == some true) && ((PySem.W.subIn K (.ref C) (.ref (adsOf K).c_Statement) == some true) && (C != (adsOf K).c_Statement))) = true := pick c 233
  have fy_ : ((adsOf K).fam.all fun C => PySem.W.mroIn K C (.ref C) == some true) = true := pick c 234
  have fv_ : ((adsOf K).fam.all fun C => PySem.W.ks_superIn K C C "__init__" == some (some (.ref (adsOf K).a_Statement___init__))) = true := pick c 235
  have fw11 : ((adsOf K).fam.all fun C => PySem.W.findIn K (.ref C) "amount" == some (some (.ref (adsOf K).p_Statement_amount))) = true := pick c 236
  have fw12 : ((adsOf K).fam.all fun C => PySem.W.findIn K (.ref C) "level" == some (some (.ref (adsOf K).p_Statement_level))) = true := pick c 237
  have fw13 : ((adsOf K).fam.all fun C => PySem.W.findIn K (.ref C) "__eq__" == some (some (.ref (adsOf K).a_Statement___eq__))) = true := pick c 238
  have fw14 : ((adsOf K).fam.all fun C => PySem.W.findIn K (.ref C) "__str__" == some (some (.ref (adsOf K).a_Statement___str__))) = true := pick c 239
  have fw15 : ((adsOf K).fam.all fun C => PySem.W.findIn K (.ref C) "__repr__" == some (some (.ref (adsOf K).a_Statement___repr__))) = true := pick c 240
  have fx_ : ((adsOf K).fam.all fun C => PySem.W.readsIn K C (.type "type") && (PySem.W.specialIn K (.ref C) "__getattribute__" == some (some (.builtin "type.__getattribute__")))) = true := pick c 241
  have wa_Look : conB K (adsOf K).c_Look "WORD" "look" = true := pick c 242
  have wc_Look : cvalB K (adsOf K).c_Look "WORD" "look" = true := pick c 243
  have wa_Put : conB K (adsOf K).c_Put "WORD" "put" = true := pick c 244
  have wc_Put : cvalB K (adsOf K).c_Put "WORD" "put" = true := pick c 245
  have wa_Swap : conB K (adsOf K).c_Swap "WORD" "swap" = true := pick c 246
  have wc_Swap : cvalB K (adsOf K).c_Swap "WORD" "swap" = true := pick c 247
  have wa_Try : conB K (adsOf K).c_Try "WORD" "try" = true := pick c 248
  have wc_Try : cvalB K (adsOf K).c_Try "WORD" "try" = true := pick c 249
  have wa_Let : conB K (adsOf K).c_Let "WORD" "let" = true := pick c 250
  have wc_Let : cvalB K (adsOf K).c_Let "WORD" "let" = true := pick c 251
  have wa_Leave : conB K (adsOf K).c_Leave "WORD" "leave" = true := pick c 252
  have wc_Leave : cvalB K (adsOf K).c_Leave "WORD" "leave" = true := pick c 253
  have wa_Return : conB K (adsOf K).c_Return "WORD" "return" = true := pick c 254
  have wc_Return : cvalB K (adsOf K).c_Return "WORD" "return" = true := pick c 255
  have wa_If : conB K (adsOf K).c_If "WORD" "if" = true := pick c 256
  have wc_If : cvalB K (adsOf K).c_If "WORD" "if" = true := pick c 257
  have wa_Loop : conB K (adsOf K).c_Loop "WORD" "loop" = true := pick c 258
  have wc_Loop : cvalB K (adsOf K).c_Loop "WORD" "loop" = true := pick c 259
  have wa_Joined : conB K (adsOf K).c_Joined "WORD" "joined" = true := pick c 260
  have wc_Joined : cvalB K (adsOf K).c_Joined "WORD" "joined" = true := pick c 261
  have mk_Look : PySem.W.makesIn K (adsOf K).c_Look = true := pick c 262
  have kc_Look : PySem.W.keepIn K (.ref (adsOf K).c_Look) = true := pick c 263
  have mk_Put : PySem.W.makesIn K (adsOf K).c_Put = true := pick c 264
  have kc_Put : PySem.W.keepIn K (.ref (adsOf K).c_Put) = true := pick c 265
  have mk_Swap : PySem.W.makesIn K (adsOf K).c_Swap = true := pick c 266
  have kc_Swap : PySem.W.keepIn K (.ref (adsOf K).c_Swap) = true := pick c 267
  have mk_Try : PySem.W.makesIn K (adsOf K).c_Try = true := pick c 268
  have kc_Try : PySem.W.keepIn K (.ref (adsOf K).c_Try) = true := pick c 269
  have mk_Let : PySem.W.makesIn K (adsOf K).c_Let = true := pick c 270
  have kc_Let : PySem.W.keepIn K (.ref (adsOf K).c_Let) = true := pick c 271
  have mk_Leave : PySem.W.makesIn K (adsOf K).c_Leave = true := pick c 272
  have kc_Leave : PySem.W.keepIn K (.ref (adsOf K).c_Leave) = true := pick c 273
  have mk_Return : PySem.W.makesIn K (adsOf K).c_Return = true := pick c 274
  have kc_Return : PySem.W.keepIn K (.ref (adsOf K).c_Return) = true := pick c 275
  have mk_If : PySem.W.makesIn K (adsOf K).c_If = true := pick c 276
  have kc_If : PySem.W.keepIn K (.ref (adsOf K).c_If) = true := pick c 277
  have mk_Loop : PySem.W.makesIn K (adsOf K).c_Loop = true := pick c 278
  have kc_Loop : PySem.W.keepIn K (.ref (adsOf K).c_Loop) = true := pick c 279
  have mk_Joined : PySem.W.makesIn K (adsOf K).c_Joined = true := pick c 280
  have kc_Joined : PySem.W.keepIn K (.ref (adsOf K).c_Joined) = true := pick c 281
  have fk_Call : famChk K (adsOf K).c_Call ["name", "parameters", "body", "places", "slots", "sizes", "code"] = true := pick c 282
  have FC_Call := famC_of fk_Call xg_ xt_
  have ns_Call : PySem.W.notFirst K (adsOf K).c_Call (.ref (adsOf K).c_Call) = true := pick c 283
  have mk_Call : PySem.W.makesIn K (adsOf K).c_Call = true := pick c 284
  have kc_Call : PySem.W.keepIn K (.ref (adsOf K).c_Call) = true := pick c 285
  exact ⟨⟨PySem.W.mg_none_of X G z_abs,
    PySem.W.mg_none_of X G z_all,
    PySem.W.mg_none_of X G z_any,
    PySem.W.mg_none_of X G z_divmod,
    PySem.W.mg_none_of X G z_enumerate,
    PySem.W.mg_none_of X G z_int,
    PySem.W.mg_none_of X G z_isinstance,
    PySem.W.mg_none_of X G z_len,
    PySem.W.mg_none_of X G z_list,
    PySem.W.mg_none_of X G z_max,
    PySem.W.mg_none_of X G z_min,
    PySem.W.mg_none_of X G z_property,
    PySem.W.mg_none_of X G z_range,
    PySem.W.mg_none_of X G z_repr,
    PySem.W.mg_none_of X G z_reversed,
    PySem.W.mg_none_of X G z_set,
    PySem.W.mg_none_of X G z_sorted,
    PySem.W.mg_none_of X G z_str,
    PySem.W.mg_none_of X G z_sum,
    PySem.W.mg_none_of X G z_super,
    PySem.W.mg_none_of X G z_tuple,
    PySem.W.mg_of X G q_LETTERS,
    PySem.W.mg_of X G q_SIGNS,
    PySem.W.mg_of X G q_NOTHING,
    PySem.W.mg_of X G q_YES,
    PySem.W.mg_of X G q_LONGEST,
    PySem.W.mg_of X G q_ACTS,
    fun H => tupS_ok r_ACTS H,
    PySem.W.mg_of X G q_MAX_CELLS,
    PySem.W.mg_of X G q_MAX_PARAMETERS,
    PySem.W.mg_of X G q_MAX_SLOTS,
    PySem.W.mg_of X G q_MAX_STEPS,
    PySem.W.mg_of X G q_MAX_STATEMENTS,
    PySem.W.mg_of X G q_MAX_LEVEL,
    PySem.W.mg_of X G q_STEPS,
    fun H => tupS_ok r_STEPS H,
    PySem.W.mg_of X G q_TOGETHER,
    fun H => tupS_ok r_TOGETHER H,
    PySem.W.mg_of X G a_Statement,
    PySem.W.mg_of X G a_Look,
    PySem.W.mg_of X G a_Put,
    PySem.W.mg_of X G a_Swap,
    PySem.W.mg_of X G a_Try,
    PySem.W.mg_of X G a_Let,
    PySem.W.mg_of X G a_If,
    PySem.W.mg_of X G a_Loop,
    PySem.W.mg_of X G a_Leave,
    PySem.W.mg_of X G a_Return,
    PySem.W.mg_of X G a_Joined,
    PySem.W.mg_of X G a_Call,
    F0,
    F0.kp,
    F0.binds (ps := ["value"]) fun _ _ _ _ _ _ us hl => match us, hl with | [_], _ => rfl,
    PySem.W.mg_of X G a0,
    F1,
    F1.kp,
    F1.binds (ps := ["value"]) fun _ _ _ _ _ _ us hl => match us, hl with | [_], _ => rfl,
    PySem.W.mg_of X G a1,
    F2,
    F2.kp,
    F2.binds (ps := ["value"]) fun _ _ _ _ _ _ us hl => match us, hl with | [_], _ => rfl,
    PySem.W.mg_of X G a2,
    F3,
    F3.kp,
    F3.binds (ps := ["value"]) fun _ _ _ _ _ _ us hl => match us, hl with | [_], _ => rfl,
    PySem.W.mg_of X G a3,
    F4,
    F4.kp,
    F4.binds (ps := ["parameters", "slots", "body"]) fun _ _ _ _ _ _ us hl => match us, hl with | [_, _, _], _ => rfl,
    PySem.W.mg_of X G a4,
    F5,
    F5.kp,
    F5.binds (ps := ["names", "body"]) fun _ _ _ _ _ _ us hl => match us, hl with | [_, _], _ => rfl,
    PySem.W.mg_of X G a5,
    F6,
    F6.kp,
    F6.binds (ps := ["rows", "by"]) fun _ _ _ _ _ _ us hl => match us, hl with | [_, _], _ => rfl,
    PySem.W.mg_of X G a6,
    F7,
    F7.kp,
    F7.binds (ps := ["names", "part"]) fun _ _ _ _ _ _ us hl => match us, hl with | [_, _], _ => rfl,
    PySem.W.mg_of X G a7,
    F8,
    F8.kp,
    F8.binds (ps := ["names", "part"]) fun _ _ _ _ _ _ us hl => match us, hl with | [_, _], _ => rfl,
    PySem.W.mg_of X G a8,
    F9,
    F9.kp,
    F9.binds (ps := ["names", "operand"]) fun _ _ _ _ _ _ us hl => match us, hl with | [_, _], _ => rfl,
    PySem.W.mg_of X G a9,
    F10,
    (Bool.and_eq_true_iff.mp s10).1,
    FunV.bindsD (its := dvals K (adsOf K).a_Statement___init__ [true, true, true]) (n := 2) (j := 0) F10 L10 O10 rfl fun _ _ _ _ _ _ us hl => match us, hl with | [_, _], _ => ⟨_, rfl, rfl⟩,
    FunV.bindsD (its := dvals K (adsOf K).a_Statement___init__ [true, true, true]) (n := 3) (j := 1) F10 L10 O10 rfl fun _ _ _ _ _ _ us hl => match us, hl with | [_, _, _], _ => ⟨_, rfl, rfl⟩,
    FunV.bindsD (its := dvals K (adsOf K).a_Statement___init__ [true, true, true]) (n := 4) (j := 2) F10 L10 O10 rfl fun _ _ _ _ _ _ us hl => match us, hl with | [_, _, _, _], _ => ⟨_, rfl, rfl⟩,
    FunV.bindsD (its := dvals K (adsOf K).a_Statement___init__ [true, true, true]) (n := 5) (j := 3) F10 L10 O10 rfl fun _ _ _ _ _ _ us hl => match us, hl with | [_, _, _, _, _], _ => ⟨_, rfl, rfl⟩,
    (tup0_ok (E10 (true, 0) (by decide) rfl)).1,
    (tup0_ok (E10 (true, 0) (by decide) rfl)).2,
    (tup0_ok (E10 (true, 1) (by decide) rfl)).1,
    (tup0_ok (E10 (true, 1) (by decide) rfl)).2,
    (tup0_ok (E10 (true, 2) (by decide) rfl)).1,
    (tup0_ok (E10 (true, 2) (by decide) rfl)).2,
    fi10,
    ft10,
    F11,
    F11.kp,
    F11.binds (ps := ["self"]) fun _ _ _ _ _ _ us hl => match us, hl with | [_], _ => rfl,
    F12,
    F12.kp,
    F12.binds (ps := ["self"]) fun _ _ _ _ _ _ us hl => match us, hl with | [_], _ => rfl,
    F13,
    F13.kp,
    F13.binds (ps := ["self", "other"]) fun _ _ _ _ _ _ us hl => match us, hl with | [_, _], _ => rfl,
    F14,
    F14.kp,
    F14.binds (ps := ["self"]) fun _ _ _ _ _ _ us hl => match us, hl with | [_], _ => rfl,
    F15,
    F15.kp,
    F15.binds (ps := ["self"]) fun _ _ _ _ _ _ us hl => match us, hl with | [_], _ => rfl,
    F16,
    (Bool.and_eq_true_iff.mp s16).1,
    SFunN.binds N16 fun _ _ _ _ _ _ us hl => match us, hl with | [_, _, _], _ => rfl,
    F17,
    (Bool.and_eq_true_iff.mp s17).1,
    SFunN.binds N17 fun _ _ _ _ _ _ us hl => match us, hl with | [_, _, _], _ => rfl,
    F18,
    (Bool.and_eq_true_iff.mp s18).1,
    SFunN.binds N18 fun _ _ _ _ _ _ us hl => match us, hl with | [_, _, _, _], _ => rfl,
    F19,
    (Bool.and_eq_true_iff.mp s19).1,
    SFunN.binds N19 fun _ _ _ _ _ _ us hl => match us, hl with | [_, _, _, _, _], _ => rfl,
    F20,
    (Bool.and_eq_true_iff.mp s20).1,
    SFunN.binds N20 fun _ _ _ _ _ _ us hl => match us, hl with | [_, _, _], _ => rfl,
    F21,
    (Bool.and_eq_true_iff.mp s21).1,
    SFun.bindsD (its := dvals K (adsOf K).a_If___init__ [true]) (n := 4) (j := 0) G21 L21 O21 rfl fun _ _ _ _ _ _ us hl => match us, hl with | [_, _, _, _], _ => ⟨_, rfl, rfl⟩,
    SFun.bindsD (its := dvals K (adsOf K).a_If___init__ [true]) (n := 5) (j := 1) G21 L21 O21 rfl fun _ _ _ _ _ _ us hl => match us, hl with | [_, _, _, _, _], _ => ⟨_, rfl, rfl⟩,
    (tup0_ok (E21 (true, 0) (by decide) rfl)).1,
    (tup0_ok (E21 (true, 0) (by decide) rfl)).2,
    F22,
    (Bool.and_eq_true_iff.mp s22).1,
    SFunN.binds N22 fun _ _ _ _ _ _ us hl => match us, hl with | [_, _], _ => rfl,
    F23,
    (Bool.and_eq_true_iff.mp s23).1,
    SFunN.binds N23 fun _ _ _ _ _ _ us hl => match us, hl with | [_], _ => rfl,
    F24,
    (Bool.and_eq_true_iff.mp s24).1,
    SFunN.binds N24 fun _ _ _ _ _ _ us hl => match us, hl with | [_, _], _ => rfl,
    F25,
    (Bool.and_eq_true_iff.mp s25).1,
    SFunN.binds N25 fun _ _ _ _ _ _ us hl => match us, hl with | [_, _], _ => rfl,
    F26,
    F26.kp,
    F26.binds (ps := ["body"]) fun _ _ _ _ _ _ us hl => match us, hl with | [_], _ => rfl,
    PySem.W.mg_of X G a26,
    F27,
    F27.kp,
    F27.binds (ps := ["part"]) fun _ _ _ _ _ _ us hl => match us, hl with | [_], _ => rfl,
    PySem.W.mg_of X G a27,
    F28,
    F28.kp,
    F28.binds (ps := ["value"]) fun _ _ _ _ _ _ us hl => match us, hl with | [_], _ => rfl,
    PySem.W.mg_of X G a28,
    F29,
    F29.kp,
    F29.binds (ps := ["value"]) fun _ _ _ _ _ _ us hl => match us, hl with | [_], _ => rfl,
    PySem.W.mg_of X G a29,
    F30,
    F30.kp,
    F30.binds (ps := ["body"]) fun _ _ _ _ _ _ us hl => match us, hl with | [_], _ => rfl,
    PySem.W.mg_of X G a30,
    F31,
    F31.kp,
    F31.binds (ps := ["body"]) fun _ _ _ _ _ _ us hl => match us, hl with | [_], _ => rfl,
    PySem.W.mg_of X G a31,
    F32,
    F32.kp,
    F32.binds (ps := ["body"]) fun _ _ _ _ _ _ us hl => match us, hl with | [_], _ => rfl,
    PySem.W.mg_of X G a32,
    F33,
    F33.kp,
    F33.binds (ps := ["self", "name", "parameters", "body"]) fun _ _ _ _ _ _ us hl => match us, hl with | [_, _, _, _], _ => rfl,
    F34,
    F34.kp,
    F34.binds (ps := ["self"]) fun _ _ _ _ _ _ us hl => match us, hl with | [_], _ => rfl,
    prop_of a34 pr34,
    F35,
    F35.kp,
    F35.binds (ps := ["self"]) fun _ _ _ _ _ _ us hl => match us, hl with | [_], _ => rfl,
    prop_of a35 pr35,
    F36,
    F36.kp,
    F36.binds (ps := ["self"]) fun _ _ _ _ _ _ us hl => match us, hl with | [_], _ => rfl,
    prop_of a36 pr36,
    F37,
    F37.kp,
    F37.binds (ps := ["self", "other"]) fun _ _ _ _ _ _ us hl => match us, hl with | [_, _], _ => rfl,
    ⟨a37, i37⟩,
    F38,
    F38.kp,
    F38.binds (ps := ["self"]) fun _ _ _ _ _ _ us hl => match us, hl with | [_], _ => rfl,
    ⟨a38, i38⟩,
    F39,
    F39.kp,
    F39.binds (ps := ["self"]) fun _ _ _ _ _ _ us hl => match us, hl with | [_], _ => rfl,
    ⟨a39, i39⟩,
    F40,
    F40.kp,
    F40.binds (ps := ["value"]) fun _ _ _ _ _ _ us hl => match us, hl with | [_], _ => rfl,
    PySem.W.mg_of X G a40,
    F41,
    F41.kp,
    F41.binds (ps := ["parameters", "found"]) fun _ _ _ _ _ _ us hl => match us, hl with | [_, _], _ => rfl,
    PySem.W.mg_of X G a41,
    F42,
    F42.kp,
    F42.binds (ps := ["cells", "slots", "sizes"]) fun _ _ _ _ _ _ us hl => match us, hl with | [_, _, _], _ => rfl,
    PySem.W.mg_of X G a42,
    F43,
    F43.kp,
    F43.binds (ps := ["_law_numbers", "_law_k"]) fun _ _ _ _ _ _ us hl => match us, hl with | [_, _], _ => rfl,
    PySem.W.mg_of X G a43,
    F44,
    F44.kp,
    F44.binds (ps := ["_law_number_here"]) fun _ _ _ _ _ _ us hl => match us, hl with | [_], _ => rfl,
    PySem.W.mg_of X G a44,
    F45,
    F45.kp,
    F45.binds (ps := ["_law_source_here", "_law_many"]) fun _ _ _ _ _ _ us hl => match us, hl with | [_, _], _ => rfl,
    PySem.W.mg_of X G a45,
    F46,
    F46.kp,
    F46.binds (ps := ["_law_source_here"]) fun _ _ _ _ _ _ us hl => match us, hl with | [_], _ => rfl,
    PySem.W.mg_of X G a46,
    F47,
    F47.kp,
    F47.binds (ps := ["_law_source_here", "_law_many"]) fun _ _ _ _ _ _ us hl => match us, hl with | [_, _], _ => rfl,
    PySem.W.mg_of X G a47,
    F48,
    F48.kp,
    F48.binds (ps := ["_law_tree"]) fun _ _ _ _ _ _ us hl => match us, hl with | [_], _ => rfl,
    PySem.W.mg_of X G a48,
    F49,
    F49.kp,
    F49.binds (ps := ["_law_tree"]) fun _ _ _ _ _ _ us hl => match us, hl with | [_], _ => rfl,
    PySem.W.mg_of X G a49,
    F50,
    F50.kp,
    F50.binds (ps := ["_law_trees", "_law_indent"]) fun _ _ _ _ _ _ us hl => match us, hl with | [_, _], _ => rfl,
    PySem.W.mg_of X G a50,
    F51,
    F51.kp,
    F51.binds (ps := ["_law_made_here"]) fun _ _ _ _ _ _ us hl => match us, hl with | [_], _ => rfl,
    PySem.W.mg_of X G a51,
    F52,
    F52.kp,
    F52.binds (ps := ["_law_source_here", "_law_tree"]) fun _ _ _ _ _ _ us hl => match us, hl with | [_, _], _ => rfl,
    PySem.W.mg_of X G a52,
    F53,
    F53.kp,
    F53.binds (ps := ["_law_source_here", "_law_tree", "_law_way"]) fun _ _ _ _ _ _ us hl => match us, hl with | [_, _, _], _ => rfl,
    PySem.W.mg_of X G a53,
    F54,
    F54.kp,
    F54.binds (ps := ["_law_trees"]) fun _ _ _ _ _ _ us hl => match us, hl with | [_], _ => rfl,
    PySem.W.mg_of X G a54,
    F55,
    F55.kp,
    F55.binds (ps := ["_law_trees"]) fun _ _ _ _ _ _ us hl => match us, hl with | [_], _ => rfl,
    PySem.W.mg_of X G a55,
    F56,
    F56.kp,
    F56.binds (ps := ["_law_source_here", "_law_world"]) fun _ _ _ _ _ _ us hl => match us, hl with | [_, _], _ => rfl,
    PySem.W.mg_of X G a56,
    F57,
    F57.kp,
    F57.binds (ps := ["_law_source_here", "_law_names"]) fun _ _ _ _ _ _ us hl => match us, hl with | [_, _], _ => rfl,
    PySem.W.mg_of X G a57,
    F58,
    F58.kp,
    F58.binds (ps := ["_law_source_here", "_law_world", "_law_deep", "_law_sort"]) fun _ _ _ _ _ _ us hl => match us, hl with | [_, _, _, _], _ => rfl,
    PySem.W.mg_of X G a58,
    F59,
    F59.kp,
    F59.binds (ps := ["_law_source_here", "_law_world", "_law_deep", "_law_sort"]) fun _ _ _ _ _ _ us hl => match us, hl with | [_, _, _, _], _ => rfl,
    PySem.W.mg_of X G a59,
    F60,
    F60.kp,
    F60.binds (ps := ["_law_trees", "_law_most", "_law_paces_here"]) fun _ _ _ _ _ _ us hl => match us, hl with | [_, _, _], _ => rfl,
    PySem.W.mg_of X G a60,
    F61,
    F61.kp,
    F61.binds (ps := ["_law_source_here", "_law_most", "_law_paces_here"]) fun _ _ _ _ _ _ us hl => match us, hl with | [_, _, _], _ => rfl,
    PySem.W.mg_of X G a61,
    F62,
    F62.kp,
    F62.binds (ps := ["_law_trees"]) fun _ _ _ _ _ _ us hl => match us, hl with | [_], _ => rfl,
    PySem.W.mg_of X G a62,
    F63,
    F63.kp,
    F63.binds (ps := ["_law_trees"]) fun _ _ _ _ _ _ us hl => match us, hl with | [_], _ => rfl,
    PySem.W.mg_of X G a63,
    F64,
    F64.kp,
    F64.binds (ps := ["_law_tags", "_law_trees"]) fun _ _ _ _ _ _ us hl => match us, hl with | [_, _], _ => rfl,
    PySem.W.mg_of X G a64,
    F65,
    F65.kp,
    F65.binds (ps := ["_law_mine", "_law_made_here"]) fun _ _ _ _ _ _ us hl => match us, hl with | [_, _], _ => rfl,
    PySem.W.mg_of X G a65,
    F66,
    F66.kp,
    F66.binds (ps := ["_law_source_here", "_law_made_here"]) fun _ _ _ _ _ _ us hl => match us, hl with | [_, _], _ => rfl,
    PySem.W.mg_of X G a66,
    F67,
    F67.kp,
    F67.binds (ps := ["_law_source_here", "_law_made_here"]) fun _ _ _ _ _ _ us hl => match us, hl with | [_, _], _ => rfl,
    PySem.W.mg_of X G a67,
    F68,
    F68.kp,
    F68.binds (ps := ["_law_source_here"]) fun _ _ _ _ _ _ us hl => match us, hl with | [_], _ => rfl,
    PySem.W.mg_of X G a68,
    F69,
    F69.kp,
    F69.binds (ps := []) fun _ _ _ _ _ _ us hl => match us, hl with | [], _ => rfl,
    PySem.W.mg_of X G a69,
    F70,
    F70.kp,
    F70.binds (ps := ["_law_numbers"]) fun _ _ _ _ _ _ us hl => match us, hl with | [_], _ => rfl,
    PySem.W.mg_of X G a70,
    famC_of fb_ xg_ xt_,
    fam,
    tab_of ft_ fam,
    fun C h => sub_of fb_ (List.all_eq_true.mp fu_ C h),
    fun C h => beq_iff_eq.mp (List.all_eq_true.mp fy_ C h),
    fun C h => beq_iff_eq.mp (List.all_eq_true.mp fv_ C h),
    fun C h => ⟨(fam C h).cl, prop_of (beq_iff_eq.mp (List.all_eq_true.mp fw11 C h)) pr11⟩,
    fun C h => ⟨(fam C h).cl, prop_of (beq_iff_eq.mp (List.all_eq_true.mp fw12 C h)) pr12⟩,
    fun C h => ⟨beq_iff_eq.mp (List.all_eq_true.mp fw13 C h), i13⟩,
    fun C h => ⟨beq_iff_eq.mp (List.all_eq_true.mp fw14 C h), i14⟩,
    fun C h => ⟨beq_iff_eq.mp (List.all_eq_true.mp fw15 C h), i15⟩,
    fun C h => cread_of (List.all_eq_true.mp fx_ C h),
    con_of wa_Look (by decide +kernel),
    cval_of wc_Look,
    con_of wa_Put (by decide +kernel),
    cval_of wc_Put,
    con_of wa_Swap (by decide +kernel),
    cval_of wc_Swap,
    con_of wa_Try (by decide +kernel),
    cval_of wc_Try,
    con_of wa_Let (by decide +kernel),
    cval_of wc_Let,
    con_of wa_Leave (by decide +kernel),
    cval_of wc_Leave,
    con_of wa_Return (by decide +kernel),
    cval_of wc_Return,
    con_of wa_If (by decide +kernel),
    cval_of wc_If,
    con_of wa_Loop (by decide +kernel),
    cval_of wc_Loop,
    con_of wa_Joined (by decide +kernel),
    cval_of wc_Joined,
    ⟨mk_Look, a16, i16, kc_Look⟩,
    SFunN.kbn (g := @kp_Look) N16 (fun _ _ _ _ _ _ us ws h1 h2 => match us, ws, h1, h2 with | [_], [_, _], _, _ => rfl) kp_Look_rel,
    ⟨mk_Put, a17, i17, kc_Put⟩,
    SFunN.kbn (g := @kp_Put) N17 (fun _ _ _ _ _ _ us ws h1 h2 => match us, ws, h1, h2 with | [_], [_, _], _, _ => rfl) kp_Put_rel,
    ⟨mk_Swap, a18, i18, kc_Swap⟩,
    SFunN.kbn (g := @kp_Swap) N18 (fun _ _ _ _ _ _ us ws h1 h2 => match us, ws, h1, h2 with | [_], [_, _, _], _, _ => rfl) kp_Swap_rel,
    ⟨mk_Try, a19, i19, kc_Try⟩,
    SFunN.kbn (g := @kp_Try) N19 (fun _ _ _ _ _ _ us ws h1 h2 => match us, ws, h1, h2 with | [_], [_, _, _, _], _, _ => rfl) kp_Try_rel,
    ⟨mk_Let, a20, i20, kc_Let⟩,
    SFunN.kbn (g := @kp_Let) N20 (fun _ _ _ _ _ _ us ws h1 h2 => match us, ws, h1, h2 with | [_], [_, _], _, _ => rfl) kp_Let_rel,
    ⟨mk_Leave, a23, i23, kc_Leave⟩,
    ⟨mk_Return, a24, i24, kc_Return⟩,
    SFunN.kbn (g := @kp_Return) N24 (fun _ _ _ _ _ _ us ws h1 h2 => match us, ws, h1, h2 with | [_], [_], _, _ => rfl) kp_Return_rel,
    ⟨mk_If, a21, i21, kc_If⟩,
    SFunD.kbn (g := @kp_If) G21 L21 O21 (fun _ _ _ _ _ _ us ws h1 h2 => match us, ws, h1, h2 with | [_], [_, _, _, _], _, _ => ⟨_, rfl, rfl⟩) kp_If_rel,
    ⟨mk_Loop, a22, i22, kc_Loop⟩,
    SFunN.kbn (g := @kp_Loop) N22 (fun _ _ _ _ _ _ us ws h1 h2 => match us, ws, h1, h2 with | [_], [_], _, _ => rfl) kp_Loop_rel,
    ⟨mk_Joined, a25, i25, kc_Joined⟩,
    SFunN.kbn (g := @kp_Joined) N25 (fun _ _ _ _ _ _ us ws h1 h2 => match us, ws, h1, h2 with | [_], [_], _, _ => rfl) kp_Joined_rel,
    FC_Call.cl,
    FC_Call.ty,
    FC_Call.mo,
    FC_Call.ne,
    ns_Call,
    FC_Call.nf7,
    kit_self _,
    FC_Call.ki7,
    FC_Call.na "name" (by decide +kernel),
    FC_Call.na "parameters" (by decide +kernel),
    FC_Call.na "body" (by decide +kernel),
    FC_Call.na "places" (by decide +kernel),
    FC_Call.na "slots" (by decide +kernel),
    FC_Call.na "sizes" (by decide +kernel),
    FC_Call.na "code" (by decide +kernel),
    ⟨mk_Call, a33, i33, kc_Call⟩,
    Mo.Fun.kbn (g := @kp_Call) F33 (fun _ _ _ _ _ _ us ws h1 h2 => match us, ws, h1, h2 with | [_], [_, _, _], _, _ => rfl) kp_Call_rel⟩, fun s v => Mo.Fun.law F70 (p := "_law_numbers") (fun _ _ _ _ _ _ _ => rfl) s v⟩
end K07
set_option Elab.async false
set_option linter.all false
set_option maxRecDepth 100000
set_option maxHeartbeats 4000000
/-! Sets of texts: what stands in the heap (SetT), add, {e for ..}, set(list), sorted(set). -/
noncomputable section
namespace Mo
open PySem PySem.Spec PyProof.Rows L2 PySem.Froz

section
variable {P : Program} {w : World} {A : Around} {E : Value → Shared → Prop} {s : Shared}
/-- a set's payload that holds the texts l and can be walked -/
structure TxR (P : Program) (w : World) (D : SD) (l : List Str) : Prop where
  tx : TxOk P w D l
  nd : l.Nodup
  few : l.length < scanBound
  ris : Ris D.2.2.place.toList
  led : w.params.followText "set-order" = true ∨ D.2.2.led = true
def SetTx (P : Program) (w : World) (h : Heap) (a : Addr) (l : List Str) : Prop := ∃ D, h.get? a = some (sObj "set" D) ∧ TxR P w D l
theorem SetTx.lt {h : Heap} {a : Addr} {l : List Str} (x : SetTx P w h a l) : a < h.objs.size := let ⟨_, e, _⟩ := x; Heap.lt_size e
theorem SetTx.at {h h' : Heap} {a : Addr} {l : List Str} (x : SetTx P w h a l) (k : ∀ o, h.get? a = some o → h'.get? a = some o) : SetTx P w h' a l := let ⟨D, e, r⟩ := x; ⟨D, k _ e, r⟩
theorem off_plain {t : SetTable} : (if t.plain = true then { t with plain := false } else t).place = t.place ∧ (if t.plain = true then { t with plain := false } else t).led = t.led := by
  by_cases c : t.plain = true
  · rw [if_pos c]; exact ⟨rfl, rfl⟩
  · rw [if_neg c]; exact ⟨rfl, rfl⟩
theorem TxR.add {D : SD} {l : List Str} {k : Str} (u : Tok) (F : TxR P w D l) (hk : k ∉ l) (hb : l.length + 1 < scanBound) : TxR P w (addTx (hashStr w k) (.str k u) D) (k :: l) := by
  obtain ⟨es, ep, t⟩ := D
  obtain ⟨pl, ld⟩ := off_plain (t := (layNew t es (hashStr w k) (.str k u)).2.1)
  have r1 := layNew_ris t es (hashStr w k) (.str k u) F.ris
  have l1 := layNew_led t es (hashStr w k) (.str k u)
  have both : Ris (addTx (hashStr w k) (.str k u) (es, ep, t)).2.2.place.toList ∧ (addTx (hashStr w k) (.str k u) (es, ep, t)).2.2.led = t.led := by
    unfold addTx tailTx
    dsimp only
    generalize (if (layNew t es (hashStr w k) (.str k u)).2.1.plain = true then { (layNew t es (hashStr w k) (.str k u)).2.1 with plain := false } else (layNew t es (hashStr w k) (.str k u)).2.1) = t2 at pl ld ⊢
    generalize (layNew t es (hashStr w k) (.str k u)).1 = es1
    generalize (layNew t es (hashStr w k) (.str k u)).2.2.1 = wd
    by_cases c : (!wd && t2.tooFull) = true
    · rw [if_pos c]
      exact ⟨relayAll_ris _ _ _, (relayAll_led _ _ _).trans (ld.trans l1)⟩
    · rw [if_neg c]
      refine ⟨?_, ld.trans l1⟩
      rw [pl]
      exact r1
  refine ⟨add_ok u F.tx, List.nodup_cons.mpr ⟨hk, F.nd⟩, hb, both.1, F.led.imp id fun z => ?_⟩
  rw [both.2]
  exact z
/-- a text that is there already -/
theorem old_x {a : Addr} {T : String} {D : SD} {l : List Str} {k : Str} {u : Tok} {Q : Bool → Shared → Prop} (ho : s.heap.get? a = some (sObj T D)) (F : TxOk P w D l) (hk : k ∈ l) (hb : l.length < scanBound)
    (h : Q false s) : wpAny (model P w) A (setAddHashed a (.str k u) (hashStr w k)) Q E s := by
  obtain ⟨es, ep, t⟩ := D
  have dt : (sObj T (es, ep, t)).data = .set es ep t := rfl
  have fit : t.fits es.size = true := F.fit
  have el : ElemsOf (strKind P w) es.toList := F.el
  have size : es.size < scanBound := by rw [show es.size = l.length from F.sz]; exact hb
  have isk : (strKind P w).is k (.str k u) = true := is_str k u
  unfold setAddHashed setAddHashedIn
  refine wpAny_holding (wpAny_bind (wpAny_setState_of ho dt fit ?_))
  dsimp only
  rw [byScan_of rfl size el]
  simp only [↓reduceIte]
  unfold setAddByScan
  refine wpAny_bind (wpAny_bind (wpAny_rule (wpAny_bind (wpAny_setScan_of (knd := strKind P w) (k := k) isk ho dt fit el ?_))))
  obtain ⟨e, he, q⟩ := (F.mem k).mp hk
  cases r : List.findIdx? (fun e => (strKind P w).is k e.2) es.toList with
  | some j =>
    dsimp only
    exact wpAny_pure (wpAny_pure h)
  | none =>
    have z := List.findIdx?_eq_none_iff.mp r e he
    rw [q] at z
    cases z
def put1 (k : Str) (l : List Str) : List Str := if k ∈ l then l else k :: l
theorem mem_put1 {k x : Str} {l : List Str} : x ∈ put1 k l ↔ x = k ∨ x ∈ l := by
  unfold put1
  by_cases c : k ∈ l
  · rw [if_pos c]
    exact ⟨.inr, fun h => h.elim (fun e => e ▸ c) id⟩
  · rw [if_neg c]
    exact List.mem_cons
theorem put1_len (k : Str) (l : List Str) : (put1 k l).length ≤ l.length + 1 := by
  unfold put1
  split <;> simp
theorem put1_nd {k : Str} {l : List Str} (h : l.Nodup) : (put1 k l).Nodup := by
  unfold put1
  split
  · exact h
  · rename_i c
    exact List.nodup_cons.mpr ⟨c, h⟩
/-- s.add(k), hashed -/
theorem addT_hashed {a : Addr} {l : List Str} {k : Str} {u : Tok} {Q : Bool → Shared → Prop} (x : SetTx P w s.heap a l) (hb : l.length + 1 < scanBound)
    (h : ∀ b h', Heap.SameBut a s.heap h' → SetTx P w h' a (put1 k l) → Q b { s with heap := h' }) : wpAny (model P w) A (setAddHashed a (.str k u) (hashStr w k)) Q E s := by
  obtain ⟨D, ho, r⟩ := x
  by_cases c : k ∈ l
  · refine old_x ho r.tx c (Nat.lt_of_succ_lt hb) ?_
    have z := h false s.heap (Heap.SameBut.refl a s.heap) ⟨D, ho, ?_⟩
    · exact z
    · unfold put1
      rw [if_pos c]
      exact r
  · refine add_x ho r.tx c hb (h true _ (Heap.SameBut.update s.heap a _) ⟨_, get_upd _ ho rfl, ?_⟩)
    unfold put1
    rw [if_neg c]
    exact r.add u c hb
theorem SetTx.type {a : Addr} {l : List Str} (x : SetTx P w s.heap a l) : s.TypeIs (.ref a) "set" := let ⟨_, e, _⟩ := x; ⟨_, e, rfl⟩
theorem addT {a : Addr} {l : List Str} {k : Str} {u : Tok} {Q : Value → Shared → Prop} (x : SetTx P w s.heap a l) (hb : l.length + 1 < scanBound)
    (h : ∀ h', Heap.SameBut a s.heap h' → SetTx P w h' a (put1 k l) → Q .none { s with heap := h', toks := s.toks + 1 }) : wpAny (model P w) A (call (.builtin "set.add") [.ref a, .str k u]) Q E s := by
  refine wpAny_call_entry F.slot_set_add x.type F.entry_set_add ?_ (F.args_set_add_2 _ _)
  unfold Builtin.«set.add» Builtin.Frozenset.oneOther
  simp only [List.isEmpty_nil, bind_assoc]
  unfold Builtin.Frozenset.addrOf setAdd
  refine wpAny_bind (wpAny_pure ?_)
  try dsimp only
  refine wpAny_bind (wpAny_pure ?_)
  try dsimp only
  refine wpAny_bind (wpAny_holding (wpAny_bind ((strKind P w).pyHash (is_str k u) ?_)))
  refine addT_hashed (s := { s with toks := s.toks + 1 }) x hb fun b h' sb y => ?_
  show wpAny _ _ (ret Value.none) _ _ _
  exact wpAny_pure ⟨_, rfl, h h' sb y⟩
theorem setTx_new {h : Heap} (P : Program) (w : World) : SetTx P w (h.push { cls := .type "set", dict := none, data := .set #[] 0 (.fresh 0 0 (!w.params.followText "set-order")) }) h.objs.size [] := by
  refine ⟨(#[], 0, .fresh 0 0 (!w.params.followText "set-order")), Heap.get?_push_size _ rfl, TxOk.nil rfl, List.nodup_nil, by decide, List.Pairwise.nil, ?_⟩
  show _ ∨ (!w.params.followText "set-order") = true
  cases w.params.followText "set-order"
  · exact .inr rfl
  · exact .inl rfl
end
/-! ### over the hand layer's heap -/
def SetT (P : Program) (w : World) (a : Addr) (l : List Str) : HO := .ext fun h => SetTx P w h a l
theorem setT_new {P : Program} {w : World} {H : Hp} {h : Heap} {a : Addr} {l : List Str} (x : SetTx P w h a l) : ObjOk P w H h a (SetT P w a l) := by
  obtain ⟨D, e, r⟩ := x
  exact ⟨⟨D, e, r⟩, ⟨_, e⟩, fun h1 h2 y k => y.at k⟩
theorem setT_get {X : Cx} {pins : List (Addr × Obj)} {σ : L2.St} {H : Hp} {s : Shared} {a : Addr} {l : List Str} (I : Inv X pins σ H s) (ha : H a = some (SetT X.prog X.w a l)) : SetTx X.prog X.w s.heap a l := by
  exact (I.hok a _ ha).1
theorem setT_add {X : Cx} {pins : List (Addr × Obj)} {σ : L2.St} {H : Hp} {s : Shared} {E : Value → Shared → Prop} {D : Addr} {l : List Str} {k : Str} {u : Tok} {Q : Value → Shared → Prop} (I : Inv X pins σ H s) (hD : H D = some (SetT X.prog X.w D l)) (room : l.length + 1 < scanBound)
    (h : ∀ s', Inv X pins σ (upd H D (SetT X.prog X.w D (put1 k l))) s' → Q .none s') : wpAny (model X.prog X.w) X.A (call (.builtin "set.add") [.ref D, .str k u]) Q E s := by
  refine addT (setT_get I hD) room fun h' sb x => ?_
  have there : ∃ o, h'.get? D = some o := let ⟨_, e, _⟩ := x; ⟨_, e⟩
  exact h _ (I.write (e := D) (t' := s.toks + 1) (by rw [hD]; trivial) (.inl rfl) (fun b o hb e => (sb.2 b hb).trans e) there (setT_new x))
end Mo
set_option Elab.async false
set_option linter.all false
set_option maxRecDepth 100000
set_option maxHeartbeats 4000000
/-! Comprehensions of sets and dicts, one clause or two, by one lemma about a clause. -/
noncomputable section
namespace Mo
open PySem PySem.Spec PyProof.Rows L2

/-- the code lp goes through a clause; leaf is what it does with an item that is kept -/
def LoopBy (P : Program) (w : World) (A : Around) (env : Env) (it : Value) (tg : Expr) (ifs : List Expr) (lp : Code) (leaf : (Shared → Prop) → (Value → Shared → Prop) → Shared → Prop) : Prop :=
  ∀ (R : Result → Shared → Prop) (I : Nat → Shared → Prop), (∀ n s, I n s → wpAny (model P w) A (pyNext it) (fun r s1 => match r with
      | none => R (.ok .next) s1
      | some v => wpAny (model P w) A (letOwnedTupleGo tg it v) (fun _ s2 => wpAny (model P w) A (assign tg env v) (fun _ s3 =>
          wpAny (model P w) A (forIn ifs true fun c r => if r = true then do let ok ← isTrue c env (eval c env); pure (ForInStep.yield ok) else pure (ForInStep.yield r)) (fun ok s4 =>
            if ok = true then leaf (fun s' => ∃ m, m < n ∧ I m s') (notedBy (model P w) A env fun e s' => R (.error e) s') s4 else ∃ m, m < n ∧ I m s4)
            (notedBy (model P w) A env fun e s' => R (.error e) s') s3) (notedBy (model P w) A env fun e s' => R (.error e) s') s2) (notedBy (model P w) A env fun e s' => R (.error e) s') s1) (notedBy (model P w) A env fun e s' => R (.error e) s') s) →
    ∀ n s, I n s → codeAny (model P w) A lp R s
/-- what is known of the slots behind an item: all that the block knew of those that are not its own -/
def Kn (vs : List Nat) (σ σ' : L2.St) : Prop := σ'.length = σ.length ∧ ∀ (j : Nat) v, (wipe σ vs)[j]? = some (some v) → σ'[j]? = some (some v)
theorem Kn.self (vs : List Nat) (σ : L2.St) : Kn vs σ σ := ⟨rfl, fun j v e => (wipe_some e).1⟩
theorem Kn.part {vs vs1 : List Nat} (h : ∀ i ∈ vs1, i ∈ vs) (σ : L2.St) : Kn vs σ (wipe σ vs1) := ⟨wipe_length _ _, fun j v e => by
  obtain ⟨e1, e2⟩ := wipe_some e
  rw [wipe_out fun z => e2 (h j z)]
  exact e1⟩
abbrev TLf := L2.St → Hp → (Hp → Prop) → Prop
/-- the reading of a clause -/
def ClR (J : It) (g : TG) (tt : TT) (te : TLf) (vs : List Nat) (σ : L2.St) (Qd : Hp → Prop) (H : Hp) : Prop :=
  ∃ W : Nat → Nat → Hp → Prop, (∃ m, W 0 m H) ∧ ∀ i m H, W i m H → (J.stop i H ∧ Qd H) ∨ (J.go i H ∧ ∃ Nx : Hp → Prop, (∀ H', Nx H' → ∃ m', m' < m ∧ W (i + 1) m' H') ∧
    ∀ x H', J.yld i H x H' → g x (wipe σ vs) H' fun σ2 H2 => wipe σ2 vs = wipe σ vs ∧ tt σ2 H2 fun b H3 => if b = true then te σ2 H3 Nx else Nx H3)
/-- the rule of an item's step in the frame Y -/
def LeafR (Y : Cx) (vs : List Nat) (te : TLf) (leaf : (Shared → Prop) → (Value → Shared → Prop) → Shared → Prop) : Prop :=
  ∀ (pins : List (Addr × Obj)) (σ : L2.St) (H : Hp) (s : Shared) (Nx : Hp → Prop) (E : Value → Shared → Prop) (post : Shared → Prop), Inv Y pins σ H s → te σ H Nx → (∀ s' σ' H', Inv Y pins σ' H' s' → Kn vs σ σ' → Nx H' → post s') → leaf post E s
theorem clause_loop {Y : Cx} {pins : List (Addr × Obj)} {σ : L2.St} {vs : List Nat} {tg : Expr} {ifs : List Expr} {g : TG} {tt : TT} {te : TLf} {it : Addr} {fp : List Addr} {J : It} {tn : Nat → Heap → Prop} {lp : Code}
    {leaf : (Shared → Prop) → (Value → Shared → Prop) → Shared → Prop} {R : Result → Shared → Prop} {H : Hp} {s : Shared} {Qd : Hp → Prop} (hc : Y.calm = true) (hx : Y.xe = fun _ _ => False)
    (L : LoopBy Y.prog Y.w Y.A Y.env (.ref it) tg ifs lp leaf) (pg : PG Y tg g) (pt : PTs Y ifs tt) (lf : LeafR Y vs te leaf) (T : Turn Y.prog Y.w Y.K tg J fp it tn) (st : tn 0 s.heap)
    (I : Inv Y pins (wipe σ vs) H s) (f : ∀ b ∈ fp, FpOk Y pins H b) (rd : ClR J g tt te vs σ Qd H) (fin : ∀ s' H', Inv Y pins (wipe σ vs) H' s' → Qd H' → R (.ok .next) s') : codeAny (model Y.prog Y.w) Y.A lp R s := by
  obtain ⟨W, ⟨m0, w0⟩, go⟩ := rd
  have free : ∀ {H' : Hp}, (∀ b ∈ fp, H' b = none) → ∀ b ∈ fp, FpOk Y pins H' b := fun n b hb => ⟨n b hb, (f b hb).2⟩
  have pgr : ∀ (pins : List (Addr × Obj)) (s : Shared) (σ : L2.St) (H : Hp) (v : V) (u : Value) (Q : L2.St → Hp → Prop), Inv Y pins σ H s → RelV v u → g v σ H Q → wpAny (model Y.prog Y.w) Y.A (assign tg Y.env u) (fun _ s' => ∃ σ' H', Inv Y pins σ' H' s' ∧ Q σ' H') (fun _ _ => False) s := by
    intro pins s σ H v u Q I r h
    have z := pg.run pins s σ H v u Q I r h
    rw [hx] at z
    exact z
  have ptr : ∀ (pins : List (Addr × Obj)) (s : Shared) (σ : L2.St) (H : Hp) (Q : Bool → Hp → Prop), Inv Y pins σ H s → tt σ H Q →
      wpAny (model Y.prog Y.w) Y.A (forIn ifs true fun c r => if r = true then do let ok ← isTrue c Y.env (eval c Y.env); pure (ForInStep.yield ok) else pure (ForInStep.yield r)) (fun b s' => ∃ H', Inv Y pins σ H' s' ∧ Q b H') (fun _ _ => False) s := by
    intro pins s σ H Q I h
    have z := pt.run pins s σ H Q I h
    rw [hx] at z
    exact z
  refine L R (fun n s' => ∃ i H', Inv Y pins (wipe σ vs) H' s' ∧ tn i s'.heap ∧ (∀ b ∈ fp, H' b = none) ∧ W i n H') ?_ m0 s ⟨0, H, I, st, fun b hb => (f b hb).1, w0⟩
  rintro n s1 ⟨i, H1, I1, st1, n1, w1⟩
  rcases go i n H1 w1 with ⟨stop, q⟩ | ⟨more, Nx, nx, turn⟩
  · refine thnF (T.done Y rfl rfl rfl hc i pins s1 (wipe σ vs) H1 (fun _ _ => False) I1 (free n1) st1 stop) fun r s2 ⟨e, I2⟩ => ?_
    subst e
    exact fin s2 H1 I2 q
  · refine thnF (T.item Y rfl rfl rfl hc i pins s1 (wipe σ vs) H1 (fun _ _ => False) I1 (free n1) st1 more) fun r s2 ⟨u, e, h2⟩ => ?_
    subst e
    refine thnF h2 fun _ s3 ⟨x, H3, I3, rx, yl, st3, n3⟩ => ?_
    refine thnF (pgr _ s3 _ H3 x u _ (I3.pinned (free n3) (T.obj _ _ st3)) rx (turn x H3 yl)) fun _ s4 ⟨σ4, H4, I4, hw, q4⟩ => ?_
    refine thnF (ptr _ s4 σ4 H4 _ I4 q4) fun b s5 ⟨H5, I5, q5⟩ => ?_
    have back : ∀ s' σ' H', Inv Y (pins ++ pinsAt fp s3.heap) σ' H' s' → Kn vs σ4 σ' → Nx H' → ∃ m, m < n ∧ ∃ i H', Inv Y pins (wipe σ vs) H' s' ∧ tn i s'.heap ∧ (∀ b ∈ fp, H' b = none) ∧ W i m H' := by
      intro s' σ' H' I' kn z
      obtain ⟨m, lt, wm⟩ := nx H' z
      have still : ∀ b ∈ fp, ∀ o, s3.heap.get? b = some o → s'.heap.get? b = some o ∧ H' b = none := by
        intro b hb o e
        have p := I'.pin (b, o) (List.mem_append_right _ (List.mem_append_right _ (mem_pinsAt hb e)))
        exact ⟨p.1, p.2.1⟩
      refine ⟨m, lt, i + 1, H', I'.unpinned.weak ?_ ?_, T.keep _ _ _ st3 fun b hb o e => (still b hb o e).1, fun b hb => ?_, wm⟩
      · rw [← hw, wipe_length, kn.1]
      · intro j v e
        rw [← hw] at e
        exact kn.2 j v e
      · obtain ⟨o, e, _⟩ := T.obj _ _ st3 b hb
        exact (still b hb o e).2
    cases b with
    | false =>
      simp only [Bool.false_eq_true, if_false] at q5 ⊢
      exact back s5 σ4 H5 I5 (Kn.self _ _) q5
    | true =>
      simp only [if_true] at q5 ⊢
      exact lf _ σ4 H5 s5 Nx _ _ I5 q5 back
/-! ### a comprehension -/
/-- the whole reading: O the new object as it stands at first -/
def tCo (O : Addr → HO) (wi : TI) (g : TG) (tt : TT) (te : Addr → TLf) (vs : List Nat) : TE := fun σ H Q => wi σ H fun J H1 => ∀ D, H1 D = none → ClR J g tt (te D) vs σ (Q (.ref D)) (upd H1 D (O D))
/-- the new object laid: newAcc makes it -/
def NewBy (P : Program) (w : World) (A : Around) (newAcc : Sem Value) (O : Addr → HO) : Prop := ∀ (s : Shared), sysModules < s.heap.objs.size → ∃ o : Obj, (∀ (E : Value → Shared → Prop) (Q : Value → Shared → Prop), Q (.ref s.heap.objs.size) { s with heap := s.heap.push o } → wpAny (model P w) A newAcc Q E s) ∧
  ∀ H : Hp, ObjOk P w H (s.heap.push o) s.heap.objs.size (O s.heap.objs.size)
theorem co_coreU {X : Cx} {pins : List (Addr × Obj)} {s : Shared} {σ : L2.St} {H : Hp} {Q : VK} {e : Expr} {tg iter : Expr} {ifs : List Expr} {gs : List Comprehension} {scope : Scope} {own : List (Str × Nat)} {pos' : Pos} {wi : TI} {g : TG} {tt : TT} {te : Addr → TLf} {O : Addr → HO} {newAcc : Sem Value} {use : Option (Value → Sem Unit)} {Qf : Value → Shared → Prop}
    {lp : Addr → Addr → Env → Code} {leaf : Addr → Env → (Shared → Prop) → (Value → Shared → Prop) → Shared → Prop}
    (hcl : clausesOf e = ⟨tg, iter, ifs, 0⟩ :: gs) (hc : X.calm = true) (hN : X.N.Nodup) (I : Inv X pins σ H s) (hi : PI X tg iter wi) (ok : BlkOk X.N X.env.scope scope own) (new : NewBy X.prog X.w X.A newAcc O)
    (hL : ∀ (env : Env) (it D : Addr), LoopBy X.prog X.w X.A env (.ref it) tg ifs (lp it D env) (leaf D env))
    (hS : ∀ (env : Env) (it D : Addr) (R : Result → Shared → Prop) (s : Shared), codeAny (model X.prog X.w) X.A (lp it D env) R s → (∀ E (Q : Value → Shared → Prop), Q (.ref it) s → wpAny (model X.prog X.w) X.A (pyIter (.ref it)) Q E s) → codeAny (model X.prog X.w) X.A (.compStart e 0 (.ref it) (.ref D) env) R s)
    (hg : ∀ (s : Shared) (H : Hp) (C : Addr) (cl : List (Str × Addr)) (fp : List Addr), PG (X.blk s H scope (compEnvC scope cl C X.env) fp) tg g) (ht : ∀ (s : Shared) (H : Hp) (C : Addr) (cl : List (Str × Addr)) (fp : List Addr), PTs (X.blk s H scope (compEnvC scope cl C X.env) fp) ifs tt)
    (hl : ∀ (s : Shared) (H : Hp) (C : Addr) (cl : List (Str × Addr)) (fp : List Addr) (D : Addr), LeafR (X.blk s H scope (compEnvC scope cl C X.env) fp) (own.map (·.2)) (te D) (leaf D (compEnvC scope cl C X.env)))
    (hs : ∀ x, foldedSetIterable iter X.env x = pure x) (h : tCo O wi g tt te (own.map (·.2)) σ H Q)
    (hRR : ∀ D C s' m H', Inv X pins σ H' s' → Q (.ref D) H' → s'.heap.Ns C m → FpOk X pins H' C → compPost (model X.prog X.w) X.A X.xe use Qf (.ref D) C (.ok .next) s') :
    wpAny (model X.prog X.w) X.A (comprehension e scope X.env pos' newAcc false (eval iter X.env) use) Qf X.xe s := by
  have cells : ∀ y ∈ scope.names, y.2 = .free → ∃ c, X.env.cells.lookup y.1 = some c := fun y hy z => (ok.free y hy z).elim (fun k => I.ok.has _ (.inl k)) fun k => I.ok.has _ (.inr k)
  refine wpAny_comprehension_free (use := use) hcl hs (closure_ok cells) ok.kind (fun y hy z => by rw [ok.uniq y hy, z]) (thn (hi.run pins s σ H _ I h) fun xv s1 hx => thn hx fun itv s2 h2 => ?_)
  obtain ⟨it, fp, tn, J, H2, e2, I2, T, st2, f2, q⟩ := h2
  subst e2
  obtain ⟨o, mk, oko⟩ := new s2 I2.big
  refine mk _ _ (newEnv_comp ?_)
  have Dn : H2 s2.heap.objs.size = none := I2.hok.fresh (Nat.le_refl _)
  have rd := q _ Dn
  have lays : ∀ b u, s2.heap.get? b = some u → (s2.heap.push o).get? b = some u := fun b u z => Heap.get?_push_of_some _ z
  have I3 : Inv X pins σ (upd H2 s2.heap.objs.size (O s2.heap.objs.size)) { s2 with heap := s2.heap.push o } := I2.laid (t' := s2.toks) lays (Nat.le_refl _) (oko _)
  have big : ∀ b ∈ fp, b < s2.heap.objs.size := fun b hb => let ⟨_, z, _⟩ := T.obj _ _ st2 b hb; Heap.lt_size z
  have f3 : ∀ b ∈ fp, FpOk X pins (upd H2 s2.heap.objs.size (O s2.heap.objs.size)) b ∧ b < (s2.heap.push o).objs.size := fun b hb => by
    refine ⟨⟨?_, (f2 b hb).2⟩, by rw [Heap.size_push]; exact Nat.lt_succ_of_lt (big b hb)⟩
    rw [upd_ne (Nat.ne_of_lt (big b hb))]
    exact (f2 b hb).1
  have st3 : tn 0 (s2.heap.push o) := T.keep _ _ _ st2 fun b _ u z => lays b u z
  have I4 := block_start I3 ok hN f3
  generalize hs3 : ({ s2 with heap := s2.heap.push o } : Shared) = s3 at I3 I4
  have h3 : s2.heap.push o = s3.heap := by rw [← hs3]
  rw [h3] at st3 f3
  show codeAny _ _ (.compStart e 0 (.ref it) (.ref s2.heap.objs.size) (compEnvC scope (cellsFrom (s3.heap.objs.size + 1) scope.names (cloFrom X.env.cells scope.names [])) s3.heap.objs.size X.env)) (compPost (model X.prog X.w) X.A X.xe use Qf (.ref s2.heap.objs.size) s3.heap.objs.size) { s3 with heap := pushCells (s3.heap.push { cls := .type "dict", data := .dict #[] }) scope.names }
  generalize s2.heap.objs.size = D at rd I3 I4 f3 ⊢
  generalize upd H2 D (O D) = H3 at rd I3 I4 f3
  have lg := hg s3 H3 s3.heap.objs.size (cellsFrom (s3.heap.objs.size + 1) scope.names (cloFrom X.env.cells scope.names [])) fp
  have lt := ht s3 H3 s3.heap.objs.size (cellsFrom (s3.heap.objs.size + 1) scope.names (cloFrom X.env.cells scope.names [])) fp
  have ll := hl s3 H3 s3.heap.objs.size (cellsFrom (s3.heap.objs.size + 1) scope.names (cloFrom X.env.cells scope.names [])) fp D
  have cL : (compEnvC scope (cellsFrom (s3.heap.objs.size + 1) scope.names (cloFrom X.env.cells scope.names [])) s3.heap.objs.size X.env).locals = s3.heap.objs.size := rfl
  generalize compEnvC scope (cellsFrom (s3.heap.objs.size + 1) scope.names (cloFrom X.env.cells scope.names [])) s3.heap.objs.size X.env = ce at I4 lg lt ll cL ⊢
  generalize hs4 : ({ s3 with heap := pushCells (s3.heap.push { cls := .type "dict", data := .dict #[] }) scope.names } : Shared) = s4 at I4 ⊢
  have st4 : tn 0 s4.heap := T.keep _ _ _ st3 fun b _ u z => by
    rw [← hs4]
    exact pushCells_keeps _ _ _ _ (Heap.get?_push_of_some _ z)
  have f4 : ∀ b ∈ fp, FpOk (X.blk s3 H3 scope ce fp) [] H3 b := fun b hb => ⟨(f3 b hb).1.1, (I4.ok.exf b hb).1, I4.ok.exfs b hb, .inl hb, fun x c z => (I4.ok.exf b hb).2 x c z, fun p hp => absurd (show p ∈ ([] : List (Addr × Obj)) ++ [] from hp) (by simp)⟩
  refine hS ce it D _ s4 (clause_loop (Y := X.blk s3 H3 scope ce fp) hc rfl (hL ce it D) lg lt ll T st4 I4 f4 rd fun s5 H5 I5 q5 => ?_) fun E' Q' => T.self X.A 0 s4 Q' E' st4
  have I6 : Inv X pins σ H5 s5 := I3.call' (ch := fp) I5.os I5.base I5.hok I5.bare fun b hb => ⟨(f3 b hb).1.2.2.2.1, (f3 b hb).1.2.1, (f3 b hb).1.2.2.2.2.1, (f3 b hb).1.2.2.2.2.2⟩
  have nC : H5 s3.heap.objs.size = none := by
    have z : H5 ce.locals = none := I5.free
    rw [cL] at z
    exact z
  obtain ⟨m, hn, _⟩ := I5.loc
  have hn : s5.heap.Ns ce.locals m := hn
  rw [cL] at hn
  exact hRR D _ s5 m H5 I6 q5 hn (I3.fpOk (Nat.le_refl _) nC)
theorem co_core {X : Cx} {pins : List (Addr × Obj)} {s : Shared} {σ : L2.St} {H : Hp} {Q : VK} {e : Expr} {tg iter : Expr} {ifs : List Expr} {gs : List Comprehension} {scope : Scope} {own : List (Str × Nat)} {pos' : Pos} {wi : TI} {g : TG} {tt : TT} {te : Addr → TLf} {O : Addr → HO} {newAcc : Sem Value}
    {lp : Addr → Addr → Env → Code} {leaf : Addr → Env → (Shared → Prop) → (Value → Shared → Prop) → Shared → Prop}
    (hcl : clausesOf e = ⟨tg, iter, ifs, 0⟩ :: gs) (hc : X.calm = true) (hN : X.N.Nodup) (I : Inv X pins σ H s) (hi : PI X tg iter wi) (ok : BlkOk X.N X.env.scope scope own) (new : NewBy X.prog X.w X.A newAcc O)
    (hL : ∀ (env : Env) (it D : Addr), LoopBy X.prog X.w X.A env (.ref it) tg ifs (lp it D env) (leaf D env))
    (hS : ∀ (env : Env) (it D : Addr) (R : Result → Shared → Prop) (s : Shared), codeAny (model X.prog X.w) X.A (lp it D env) R s → (∀ E (Q : Value → Shared → Prop), Q (.ref it) s → wpAny (model X.prog X.w) X.A (pyIter (.ref it)) Q E s) → codeAny (model X.prog X.w) X.A (.compStart e 0 (.ref it) (.ref D) env) R s)
    (hg : ∀ (s : Shared) (H : Hp) (C : Addr) (cl : List (Str × Addr)) (fp : List Addr), PG (X.blk s H scope (compEnvC scope cl C X.env) fp) tg g) (ht : ∀ (s : Shared) (H : Hp) (C : Addr) (cl : List (Str × Addr)) (fp : List Addr), PTs (X.blk s H scope (compEnvC scope cl C X.env) fp) ifs tt)
    (hl : ∀ (s : Shared) (H : Hp) (C : Addr) (cl : List (Str × Addr)) (fp : List Addr) (D : Addr), LeafR (X.blk s H scope (compEnvC scope cl C X.env) fp) (own.map (·.2)) (te D) (leaf D (compEnvC scope cl C X.env)))
    (hs : ∀ x, foldedSetIterable iter X.env x = pure x) (h : tCo O wi g tt te (own.map (·.2)) σ H Q) :
    wpAny (model X.prog X.w) X.A (comprehension e scope X.env pos' newAcc false (eval iter X.env)) (EP X pins σ Q) X.xe s := by
  refine co_coreU (use := none) (Qf := EP X pins σ Q) hcl hc hN I hi ok new hL hS hg ht hl hs h fun D C s' m H' I' q hn f => ⟨m, hn, fun h'' sb => ?_⟩
  obtain ⟨f0, f1, f2, f3, f4, f5⟩ := f
  exact ⟨.ref D, H', I'.turned (t' := s'.toks) (fun b o hb e => (sb.2 b hb).trans e) f0 f1 f3 f4 f5, rfl, q⟩
end Mo
set_option Elab.async false
set_option linter.all false
set_option maxRecDepth 100000
set_option maxHeartbeats 4000000
noncomputable section
namespace Mo
open PySem PySem.Spec PyProof.Rows L2
/-! ### the code of a clause -/
section
variable {P : Program} {w : World} {A : Around} {env : Env} {e : Expr} {d : Nat} {ip : Pos} {tg : Expr} {ifs : List Expr} {it acc : Value}
/-- what is needed of the comprehension's expression -/
structure CompE (e : Expr) : Prop where
  den : ∀ (P : Program) (w : World) (d : Nat) (it acc : Value) (env : Env), (model P w).den (.compLoop e d it acc env) = (compTurn e d it acc env).onRaise fun x => do noteFrame x env; theTreesLotGoes x
  und : ∀ (A : Around) (d : Nat) (it acc : Value) (env : Env), A.under (.compLoop e d it acc env) = A
  den1 : ∀ (P : Program) (w : World) (d : Nat) (it acc : Value) (env : Env), (model P w).den (.compStart e d it acc env) = (compStart e d it acc env).onRaise fun x => do noteFrame x env; standAt theWindowsPlace
  und1 : ∀ (A : Around) (d : Nat) (it acc : Value) (env : Env), A.under (.compStart e d it acc env) = A
  qui : ∀ (d : Nat) (it acc : Value) (env : Env), (Code.compLoop e d it acc env).quiet = true
/-- one turn: rest is what is done with an item that is kept, ahead of k -/
def turnOf (e : Expr) (d : Nat) (ip : Pos) (tg : Expr) (ifs : List Expr) (rest : Sem PySem.Fin → Sem PySem.Fin) (it acc : Value) (env : Env) : Sem PySem.Fin := do
  standAt ip
  match ← pyNext it with
  | none => pure (.done .next)
  | some v =>
    letOwnedTupleGo tg it v
    assign tg env v
    let mut ok := true
    for c in ifs do
      if ok then ok ← isTrue c env (eval c env)
    if ok then rest (again (.compLoop e d it acc env)) else again (.compLoop e d it acc env)
theorem loopBy_of (C : CompE e) {rest : Sem PySem.Fin → Sem PySem.Fin} {leaf : (Shared → Prop) → (Value → Shared → Prop) → Shared → Prop} (eq : compTurn e d it acc env = turnOf e d ip tg ifs rest it acc env)
    (hl : ∀ (k : Sem PySem.Fin) (post : Shared → Prop) (E : Value → Shared → Prop) (Q : PySem.Fin → Shared → Prop) (s : Shared), leaf post E s → (∀ s', post s' → wpAny (model P w) A k Q E s') → wpAny (model P w) A (rest k) Q E s) :
    LoopBy P w A env it tg ifs (.compLoop e d it acc env) leaf := by
  intro R I turn n s h
  refine codeAny_loop (C.qui d it acc env) I (fun n s h => ?_) n h
  rw [C.den, C.und]
  refine wpAny_noted ?_
  rw [eq]
  unfold turnOf
  refine wpAny_bind (wpAny_standAt (wpAny_bind (wpAny_mono (turn n s h) (fun r s1 h1 => ?_) fun _ _ z => z)))
  cases r with
  | none => exact wpAny_pure h1
  | some v =>
    refine wpAny_bind (wpAny_mono h1 (fun _ s2 h2 => wpAny_bind (wpAny_mono h2 (fun _ s3 h3 => wpAny_bind (wpAny_mono h3 (fun b s4 h4 => ?_) fun _ _ z => z)) fun _ _ z => z)) fun _ _ z => z)
    cases b with
    | false => exact wpAny_pure ⟨rfl, h4⟩
    | true => exact hl _ _ _ _ _ h4 fun s' z => wpAny_pure ⟨rfl, z⟩
/-- what the inner clause is for the outer -/
def leafIn (P : Program) (w : World) (A : Around) (e : Expr) (i1 : Expr) (acc : Value) (env : Env) : (Shared → Prop) → (Value → Shared → Prop) → Shared → Prop := fun post E s =>
  wpAny (model P w) A (eval i1 env) (fun x s1 => wpAny (model P w) A (pyIter x) (fun it1 s2 => codeAny (model P w) A (.compStart e 1 it1 acc env) (fun r s' => match r with
    | .ok _ => post s'
    | .error _ => False) s2) E s1) E s
def restIn (e i1 : Expr) (acc : Value) (env : Env) (k : Sem PySem.Fin) : Sem PySem.Fin := do
  let x ← eval i1 env
  standAt i1.pos
  let x ← foldedSetIterable i1 env x
  let _ ← runOwn (.compStart e 1 (← holding [x] (pyIter x)) acc env) env
  k
theorem restIn_ok {i1 : Expr} {k : Sem PySem.Fin} {post : Shared → Prop} {E : Value → Shared → Prop} {Q : PySem.Fin → Shared → Prop} {s : Shared} (hs : ∀ x, foldedSetIterable i1 env x = pure x) (h : leafIn P w A e i1 acc env post E s)
    (q : ∀ s', post s' → wpAny (model P w) A k Q E s') : wpAny (model P w) A (restIn e i1 acc env k) Q E s := by
  unfold restIn
  refine wpAny_bind (wpAny_mono h (fun x s1 h1 => wpAny_bind (wpAny_standAt (wpAny_bind (wpAny_of_eq (hs x) (wpAny_bind (wpAny_holding (wpAny_mono h1 (fun it1 s2 h2 => ?_) fun _ _ z => z))))))) fun _ _ z => z)
  refine wpAny_bind (wpAny_runOwn ?_)
  rw [Around.mark_none]
  refine codeAny_mono h2 fun r s' hr => ?_
  cases r with
  | ok f => exact q s' hr
  | error x => exact hr.elim
theorem compE_set {elt : Expr} {gens : List Comprehension} {sc : Scope} {pos : Pos} : CompE (.SetComp elt gens sc pos) := ⟨fun _ _ _ _ _ _ => rfl, fun _ _ _ _ _ => rfl, fun _ _ _ _ _ _ => rfl, fun _ _ _ _ _ => rfl, fun _ _ _ _ => rfl⟩
theorem compE_dict {k v : Expr} {gens : List Comprehension} {sc : Scope} {pos : Pos} : CompE (.DictComp k v gens sc pos) := ⟨fun _ _ _ _ _ _ => rfl, fun _ _ _ _ _ => rfl, fun _ _ _ _ _ _ => rfl, fun _ _ _ _ _ => rfl, fun _ _ _ _ => rfl⟩
/-- a clause's start -/
theorem start_of (C : CompE e) {R : Result → Shared → Prop} {s : Shared} {g : Comprehension} (hg : (clausesOf e)[d]? = some g) (ha : g.is_async = 0) (h : codeAny (model P w) A (.compLoop e d it acc env) R s)
    (hi : ∀ (E : Value → Shared → Prop) (Q : Value → Shared → Prop), Q it s → wpAny (model P w) A (pyIter it) Q E s) : codeAny (model P w) A (.compStart e d it acc env) R s := by
  refine codeAny_of_tree ?_
  rw [C.den1, C.und1]
  refine wpAny_notedAt ?_
  unfold compStart
  rw [hg]
  have z : (Option.some g).elim false (fun x => x.is_async != 0) = false := by
    show (g.is_async != 0) = false
    rw [ha]
    rfl
  rw [z]
  refine wpAny_bind (wpAny_askSetting (wpAny_ite ?_))
  split
  · exact wpAny_pure ⟨C.qui d it acc env, h⟩
  · refine wpAny_bind (wpAny_rule ?_)
    refine wpAny_bind (wpAny_standAt ?_)
    exact wpAny_bind (hi _ _ (wpAny_pure ⟨C.qui d it acc env, h⟩))
end
end Mo
set_option Elab.async false
set_option linter.all false
set_option maxRecDepth 100000
set_option maxHeartbeats 4000000
noncomputable section
namespace Mo
open PySem PySem.Spec PyProof.Rows L2
/-! ### an inner clause as the outer one's item -/
def tIn (wi : TI) (g : TG) (tt : TT) (te : TLf) (vs : List Nat) : TLf := fun σ H Nx => wi σ H fun J H1 => ClR J g tt te vs σ Nx H1
theorem leafR_in {Y : Cx} {e : Expr} {tg1 iter1 : Expr} {ifs1 : List Expr} {wi1 : TI} {g1 : TG} {tt1 : TT} {te1 : TLf} {vs vs1 : List Nat} {D : Addr} {leaf1 : (Shared → Prop) → (Value → Shared → Prop) → Shared → Prop} (hc : Y.calm = true) (hx : Y.xe = fun _ _ => False) (C : CompE e)
    (hg : (clausesOf e)[1]? = some ⟨tg1, iter1, ifs1, 0⟩) (pi1 : PI Y tg1 iter1 wi1) (pg1 : PG Y tg1 g1) (pt1 : PTs Y ifs1 tt1) (L1 : ∀ it : Addr, LoopBy Y.prog Y.w Y.A Y.env (.ref it) tg1 ifs1 (.compLoop e 1 (.ref it) (.ref D) Y.env) leaf1) (lf1 : LeafR Y vs1 te1 leaf1) (hv : ∀ i ∈ vs1, i ∈ vs) :
    LeafR Y vs (tIn wi1 g1 tt1 te1 vs1) (leafIn Y.prog Y.w Y.A e iter1 (.ref D) Y.env) := by
  intro pins σ H s Nx E post I h back
  have z := pi1.run pins s σ H _ I h
  rw [hx] at z
  refine thnF z fun xv s1 h1 => thnF h1 fun itv s2 h2 => ?_
  obtain ⟨it, fp, tn, J, H2, e2, I2, T, st, f, q⟩ := h2
  subst e2
  exact start_of C hg rfl (clause_loop hc hx (L1 it) pg1 pt1 lf1 T st (I2.weak (wipe_length _ _) fun j v e => (wipe_some e).1) f q fun s' H' I' nx => back s' (wipe σ vs1) H' I' (Kn.part hv σ) nx) fun E' Q' => T.self Y.A 0 s2 Q' E' st
/-! ### sets of texts -/
section
variable {P : Program} {w : World} {A : Around} {env : Env}
def leafS (P : Program) (w : World) (A : Around) (elt : Expr) (acc : Value) (env : Env) : (Shared → Prop) → (Value → Shared → Prop) → Shared → Prop := fun post E s =>
  wpAny (model P w) A (eval elt env) (fun x s1 => wpAny (model P w) A (call (.builtin "set.add") [acc, x]) (fun _ s2 => post s2) E s1) E s
def emitS (elt : Expr) (acc : Value) (env : Env) : Sem Unit := do let v ← eval elt env; standAt elt.pos; let _ ← call (.builtin "set.add") [acc, v]
theorem emitS_ok {elt : Expr} {acc : Value} {k : Sem PySem.Fin} {post : Shared → Prop} {E : Value → Shared → Prop} {Q : PySem.Fin → Shared → Prop} {s : Shared} (h : leafS P w A elt acc env post E s) (q : ∀ s', post s' → wpAny (model P w) A k Q E s') :
    wpAny (model P w) A (emitS elt acc env >>= fun _ => k) Q E s := by
  unfold emitS
  exact wpAny_bind (wpAny_bind (wpAny_mono h (fun x s1 h1 => wpAny_bind (wpAny_standAt (wpAny_bind (wpAny_mono h1 (fun _ s2 h2 => wpAny_pure (q s2 h2)) fun _ _ z => z)))) fun _ _ z => z))
theorem loop_set1 {elt tg iter : Expr} {ifs : List Expr} {sc : Scope} {pos : Pos} {it acc : Value} : LoopBy P w A env it tg ifs (.compLoop (.SetComp elt [⟨tg, iter, ifs, 0⟩] sc pos) 0 it acc env) (leafS P w A elt acc env) :=
  loopBy_of compE_set (ip := iter.pos) (rest := fun k => emitS elt acc env >>= fun _ => k) rfl fun k post E Q s h q => emitS_ok h q
theorem loop_set2o {elt t0 i0 t1 i1 : Expr} {f0 f1 : List Expr} {sc : Scope} {pos : Pos} {it acc : Value} (hs : ∀ x, foldedSetIterable i1 env x = pure x) :
    LoopBy P w A env it t0 f0 (.compLoop (.SetComp elt [⟨t0, i0, f0, 0⟩, ⟨t1, i1, f1, 0⟩] sc pos) 0 it acc env) (leafIn P w A (.SetComp elt [⟨t0, i0, f0, 0⟩, ⟨t1, i1, f1, 0⟩] sc pos) i1 acc env) :=
  loopBy_of compE_set (ip := i0.pos) (rest := fun k => restIn (.SetComp elt [⟨t0, i0, f0, 0⟩, ⟨t1, i1, f1, 0⟩] sc pos) i1 acc env k) rfl fun k post E Q s h q => restIn_ok hs h q
theorem loop_set2i {elt t0 i0 t1 i1 : Expr} {f0 f1 : List Expr} {sc : Scope} {pos : Pos} {it acc : Value} :
    LoopBy P w A env it t1 f1 (.compLoop (.SetComp elt [⟨t0, i0, f0, 0⟩, ⟨t1, i1, f1, 0⟩] sc pos) 1 it acc env) (leafS P w A elt acc env) :=
  loopBy_of compE_set (ip := i1.pos) (rest := fun k => emitS elt acc env >>= fun _ => k) rfl fun k post E Q s h q => emitS_ok h q
end
/-- a text put into the set at D -/
def tS (P : Program) (w : World) (te : TE) (D : Addr) : TLf := fun σ H Nx => te σ H fun y H1 => ∃ (k : Str) (l : List Str), y = .str k ∧ H1 D = some (SetT P w D l) ∧ l.length + 1 < scanBound ∧ Nx (upd H1 D (SetT P w D (put1 k l)))
theorem leafR_set {Y : Cx} {elt : Expr} {te : TE} {vs : List Nat} {D : Addr} (hx : Y.xe = fun _ _ => False) (pe : PE Y elt te) : LeafR Y vs (tS Y.prog Y.w te D) (leafS Y.prog Y.w Y.A elt (.ref D) Y.env) := by
  intro pins σ H s Nx E post I h back
  have z := pe.run pins s σ H _ I h
  rw [hx] at z
  refine thnF z fun u s1 ⟨y, H1, I1, r, k, l, ey, hD, room, nx⟩ => ?_
  subst ey
  obtain ⟨t, rfl⟩ := r
  exact setT_add I1 hD room fun s2 I2 => back s2 σ _ I2 (Kn.self _ _) nx
theorem newBy_set {P : Program} {w : World} {A : Around} : NewBy P w A (newSet (.type "set")) fun D => SetT P w D [] := fun s hb => ⟨_, fun E Q q => PpSet.newSet_ok q, fun H => setT_new (setTx_new P w)⟩
section
variable {X : Cx} {elt : Expr} {scope : Scope} {own : List (Str × Nat)} {pos : Pos}
/-- {elt for tg in iter if ..}, texts -/
theorem pe_scT {tg iter : Expr} {ifs : List Expr} {wi : TI} {g : TG} {tt : TT} {te : TE} (hc : X.calm = true) (hN : X.N.Nodup) (hi : PI X tg iter wi) (ok : BlkOk X.N X.env.scope scope own)
    (hg : ∀ (s : Shared) (H : Hp) (C : Addr) (cl : List (Str × Addr)) (fp : List Addr), PG (X.blk s H scope (compEnvC scope cl C X.env) fp) tg g) (ht : ∀ (s : Shared) (H : Hp) (C : Addr) (cl : List (Str × Addr)) (fp : List Addr), PTs (X.blk s H scope (compEnvC scope cl C X.env) fp) ifs tt)
    (he : ∀ (s : Shared) (H : Hp) (C : Addr) (cl : List (Str × Addr)) (fp : List Addr), PE (X.blk s H scope (compEnvC scope cl C X.env) fp) elt te) (hs : ∀ x, foldedSetIterable iter X.env x = pure x := by intro _; rfl) :
    PE X (.SetComp elt [⟨tg, iter, ifs, 0⟩] scope pos) (tCo (fun D => SetT X.prog X.w D []) wi g tt (tS X.prog X.w te) (own.map (·.2))) := by
  refine ⟨fun pins s σ H Q I h => ?_⟩
  rw [PpSet.eval_SetComp]
  exact co_core (e := .SetComp elt [⟨tg, iter, ifs, 0⟩] scope pos) (gs := []) (lp := fun it D env => .compLoop (.SetComp elt [⟨tg, iter, ifs, 0⟩] scope pos) 0 (.ref it) (.ref D) env) (leaf := fun D env => leafS X.prog X.w X.A elt (.ref D) env) rfl hc hN I hi ok newBy_set
    (fun env it D => loop_set1) (fun env it D R s h1 h2 => start_of compE_set rfl rfl h1 h2) hg ht (fun s H C cl fp D => leafR_set rfl (he s H C cl fp)) hs h
/-- {elt for tg in iter if .. for tg1 in iter1 if ..}, texts -/
theorem pe_scT2 {tg iter tg1 iter1 : Expr} {ifs ifs1 : List Expr} {wi wi1 : TI} {g g1 : TG} {tt tt1 : TT} {te : TE} {vs1 : List Nat} (hc : X.calm = true) (hN : X.N.Nodup) (hi : PI X tg iter wi) (ok : BlkOk X.N X.env.scope scope own) (hv : ∀ i ∈ vs1, i ∈ own.map (·.2))
    (hg : ∀ (s : Shared) (H : Hp) (C : Addr) (cl : List (Str × Addr)) (fp : List Addr), PG (X.blk s H scope (compEnvC scope cl C X.env) fp) tg g) (ht : ∀ (s : Shared) (H : Hp) (C : Addr) (cl : List (Str × Addr)) (fp : List Addr), PTs (X.blk s H scope (compEnvC scope cl C X.env) fp) ifs tt)
    (hi1 : ∀ (s : Shared) (H : Hp) (C : Addr) (cl : List (Str × Addr)) (fp : List Addr), PI (X.blk s H scope (compEnvC scope cl C X.env) fp) tg1 iter1 wi1)
    (hg1 : ∀ (s : Shared) (H : Hp) (C : Addr) (cl : List (Str × Addr)) (fp : List Addr), PG (X.blk s H scope (compEnvC scope cl C X.env) fp) tg1 g1) (ht1 : ∀ (s : Shared) (H : Hp) (C : Addr) (cl : List (Str × Addr)) (fp : List Addr), PTs (X.blk s H scope (compEnvC scope cl C X.env) fp) ifs1 tt1)
    (he : ∀ (s : Shared) (H : Hp) (C : Addr) (cl : List (Str × Addr)) (fp : List Addr), PE (X.blk s H scope (compEnvC scope cl C X.env) fp) elt te) (hs : ∀ x, foldedSetIterable iter X.env x = pure x := by intro _; rfl) (hs1 : ∀ env x, foldedSetIterable iter1 env x = pure x := by intro _ _; rfl) :
    PE X (.SetComp elt [⟨tg, iter, ifs, 0⟩, ⟨tg1, iter1, ifs1, 0⟩] scope pos) (tCo (fun D => SetT X.prog X.w D []) wi g tt (fun D => tIn wi1 g1 tt1 (tS X.prog X.w te D) vs1) (own.map (·.2))) := by
  refine ⟨fun pins s σ H Q I h => ?_⟩
  rw [PpSet.eval_SetComp]
  exact co_core (e := .SetComp elt [⟨tg, iter, ifs, 0⟩, ⟨tg1, iter1, ifs1, 0⟩] scope pos) (gs := [⟨tg1, iter1, ifs1, 0⟩]) (lp := fun it D env => .compLoop (.SetComp elt [⟨tg, iter, ifs, 0⟩, ⟨tg1, iter1, ifs1, 0⟩] scope pos) 0 (.ref it) (.ref D) env)
    (leaf := fun D env => leafIn X.prog X.w X.A (.SetComp elt [⟨tg, iter, ifs, 0⟩, ⟨tg1, iter1, ifs1, 0⟩] scope pos) iter1 (.ref D) env) rfl hc hN I hi ok newBy_set
    (fun env it D => loop_set2o (hs1 env)) (fun env it D R s h1 h2 => start_of compE_set rfl rfl h1 h2) hg ht
    (fun s H C cl fp D => leafR_in hc rfl compE_set rfl (hi1 s H C cl fp) (hg1 s H C cl fp) (ht1 s H C cl fp) (fun it => loop_set2i) (leafR_set rfl (he s H C cl fp)) hv) hs h
end
/-! ### dicts -/
section
variable {P : Program} {w : World} {A : Around} {env : Env}
def leafD (P : Program) (w : World) (A : Around) (kx vx : Expr) (D : Addr) (env : Env) : (Shared → Prop) → (Value → Shared → Prop) → Shared → Prop := fun post E s =>
  wpAny (model P w) A (eval kx env) (fun k s1 => wpAny (model P w) A (eval vx env) (fun v s2 => wpAny (model P w) A (dictSet D k v) (fun _ s3 => post s3) E s2) E s1) E s
def emitD (kx vx : Expr) (acc : Value) (env : Env) : Sem Unit := do
  let kv ← eval kx env
  let vv ← holding [kv] (eval vx env)
  match acc with
  | .ref d => do
    standAt { kx.pos with endLine := vx.pos.endLine, endCol := vx.pos.endCol }
    holding [kv, vv] (dictSet d kv vv)
  | _ => unsupported "internal:dictcomp"
theorem emitD_ok {kx vx : Expr} {D : Addr} {k : Sem PySem.Fin} {post : Shared → Prop} {E : Value → Shared → Prop} {Q : PySem.Fin → Shared → Prop} {s : Shared} (h : leafD P w A kx vx D env post E s) (q : ∀ s', post s' → wpAny (model P w) A k Q E s') :
    wpAny (model P w) A (emitD kx vx (.ref D) env >>= fun _ => k) Q E s := by
  unfold emitD
  exact wpAny_bind (wpAny_bind (wpAny_mono h (fun x s1 h1 => wpAny_bind (wpAny_holding (wpAny_mono h1 (fun v s2 h2 => wpAny_bind (wpAny_standAt (wpAny_holding (wpAny_mono h2 (fun _ s3 h3 => q s3 h3) fun _ _ z => z)))) fun _ _ z => z))) fun _ _ z => z))
theorem loop_dict1 {kx vx tg iter : Expr} {ifs : List Expr} {sc : Scope} {pos : Pos} {it : Value} {D : Addr} : LoopBy P w A env it tg ifs (.compLoop (.DictComp kx vx [⟨tg, iter, ifs, 0⟩] sc pos) 0 it (.ref D) env) (leafD P w A kx vx D env) :=
  loopBy_of compE_dict (ip := iter.pos) (rest := fun k => emitD kx vx (.ref D) env >>= fun _ => k) rfl fun k post E Q s h q => emitD_ok h q
theorem loop_dict2o {kx vx t0 i0 t1 i1 : Expr} {f0 f1 : List Expr} {sc : Scope} {pos : Pos} {it : Value} {D : Addr} (hs : ∀ x, foldedSetIterable i1 env x = pure x) :
    LoopBy P w A env it t0 f0 (.compLoop (.DictComp kx vx [⟨t0, i0, f0, 0⟩, ⟨t1, i1, f1, 0⟩] sc pos) 0 it (.ref D) env) (leafIn P w A (.DictComp kx vx [⟨t0, i0, f0, 0⟩, ⟨t1, i1, f1, 0⟩] sc pos) i1 (.ref D) env) :=
  loopBy_of compE_dict (ip := i0.pos) (rest := fun k => restIn (.DictComp kx vx [⟨t0, i0, f0, 0⟩, ⟨t1, i1, f1, 0⟩] sc pos) i1 (.ref D) env k) rfl fun k post E Q s h q => restIn_ok hs h q
theorem loop_dict2i {kx vx t0 i0 t1 i1 : Expr} {f0 f1 : List Expr} {sc : Scope} {pos : Pos} {it : Value} {D : Addr} :
    LoopBy P w A env it t1 f1 (.compLoop (.DictComp kx vx [⟨t0, i0, f0, 0⟩, ⟨t1, i1, f1, 0⟩] sc pos) 1 it (.ref D) env) (leafD P w A kx vx D env) :=
  loopBy_of compE_dict (ip := i1.pos) (rest := fun k => emitD kx vx (.ref D) env >>= fun _ => k) rfl fun k post E Q s h q => emitD_ok h q
end
/-- an entry put into the dict at D -/
def tDk (tk tv : TE) (D : Addr) : TLf := fun σ H Nx => tk σ H fun y H1 => tv σ H1 fun z H2 => ∃ (kvs : List (Key × V)) (k : Key), y = kV k ∧ H2 D = some (.dK kvs) ∧ kvs.length < sizeLine ∧ Nx (upd H2 D (.dK (putK kvs k z)))
theorem leafR_dict {Y : Cx} {kx vx : Expr} {tk tv : TE} {vs : List Nat} {D : Addr} (hx : Y.xe = fun _ _ => False) (pk : PE Y kx tk) (pv : PE Y vx tv) : LeafR Y vs (tDk tk tv D) (leafD Y.prog Y.w Y.A kx vx D Y.env) := by
  intro pins σ H s Nx E post I h back
  have z := pk.run pins s σ H _ I h
  rw [hx] at z
  refine thnF z fun u s1 ⟨y, H1, I1, r, q⟩ => ?_
  have z := pv.run pins s1 σ H1 _ I1 q
  rw [hx] at z
  refine thnF z fun v s2 ⟨x, H2, I2, r2, kvs, k, ey, hD, room, nx⟩ => ?_
  subst ey
  exact d_dictSet I2 hD room r r2 fun s3 I3 => back s3 σ _ I3 (Kn.self _ _) nx
theorem newBy_dict {P : Program} {w : World} {A : Around} : NewBy P w A newDict fun _ => .dK [] := fun s hb => ⟨_, fun E Q q => wpAny_newObj_type q, fun H => dk_empty s.heap hb⟩
section
variable {X : Cx} {kx vx : Expr} {scope : Scope} {own : List (Str × Nat)} {pos : Pos}
/-- {kx: vx for tg in iter if .. for tg1 in iter1 if ..}, keys ints or texts -/
theorem pe_dc2 {tg iter tg1 iter1 : Expr} {ifs ifs1 : List Expr} {wi wi1 : TI} {g g1 : TG} {tt tt1 : TT} {tk tv : TE} {vs1 : List Nat} (hc : X.calm = true) (hN : X.N.Nodup) (hi : PI X tg iter wi) (ok : BlkOk X.N X.env.scope scope own) (hv : ∀ i ∈ vs1, i ∈ own.map (·.2))
    (hg : ∀ (s : Shared) (H : Hp) (C : Addr) (cl : List (Str × Addr)) (fp : List Addr), PG (X.blk s H scope (compEnvC scope cl C X.env) fp) tg g) (ht : ∀ (s : Shared) (H : Hp) (C : Addr) (cl : List (Str × Addr)) (fp : List Addr), PTs (X.blk s H scope (compEnvC scope cl C X.env) fp) ifs tt)
    (hi1 : ∀ (s : Shared) (H : Hp) (C : Addr) (cl : List (Str × Addr)) (fp : List Addr), PI (X.blk s H scope (compEnvC scope cl C X.env) fp) tg1 iter1 wi1)
    (hg1 : ∀ (s : Shared) (H : Hp) (C : Addr) (cl : List (Str × Addr)) (fp : List Addr), PG (X.blk s H scope (compEnvC scope cl C X.env) fp) tg1 g1) (ht1 : ∀ (s : Shared) (H : Hp) (C : Addr) (cl : List (Str × Addr)) (fp : List Addr), PTs (X.blk s H scope (compEnvC scope cl C X.env) fp) ifs1 tt1)
    (hk : ∀ (s : Shared) (H : Hp) (C : Addr) (cl : List (Str × Addr)) (fp : List Addr), PE (X.blk s H scope (compEnvC scope cl C X.env) fp) kx tk) (he : ∀ (s : Shared) (H : Hp) (C : Addr) (cl : List (Str × Addr)) (fp : List Addr), PE (X.blk s H scope (compEnvC scope cl C X.env) fp) vx tv)
    (hs : ∀ x, foldedSetIterable iter X.env x = pure x := by intro _; rfl) (hs1 : ∀ env x, foldedSetIterable iter1 env x = pure x := by intro _ _; rfl) :
    PE X (.DictComp kx vx [⟨tg, iter, ifs, 0⟩, ⟨tg1, iter1, ifs1, 0⟩] scope pos) (tCo (fun _ => .dK []) wi g tt (fun D => tIn wi1 g1 tt1 (tDk tk tv D) vs1) (own.map (·.2))) := by
  refine ⟨fun pins s σ H Q I h => ?_⟩
  rw [arm_eval_DictComp]
  exact co_core (e := .DictComp kx vx [⟨tg, iter, ifs, 0⟩, ⟨tg1, iter1, ifs1, 0⟩] scope pos) (gs := [⟨tg1, iter1, ifs1, 0⟩]) (lp := fun it D env => .compLoop (.DictComp kx vx [⟨tg, iter, ifs, 0⟩, ⟨tg1, iter1, ifs1, 0⟩] scope pos) 0 (.ref it) (.ref D) env)
    (leaf := fun D env => leafIn X.prog X.w X.A (.DictComp kx vx [⟨tg, iter, ifs, 0⟩, ⟨tg1, iter1, ifs1, 0⟩] scope pos) iter1 (.ref D) env) rfl hc hN I hi ok newBy_dict
    (fun env it D => loop_dict2o (hs1 env)) (fun env it D R s h1 h2 => start_of compE_dict rfl rfl h1 h2) hg ht
    (fun s H C cl fp D => leafR_in hc rfl compE_dict rfl (hi1 s H C cl fp) (hg1 s H C cl fp) (ht1 s H C cl fp) (fun it => loop_dict2i) (leafR_dict rfl (hk s H C cl fp) (he s H C cl fp)) hv) hs h
end
/-! ### readings over a walk -/
theorem clr_walk {J : It} {n : Nat} {G : Hp → Prop} {Y : Nat → Hp → V → Hp → Prop} {g : TG} {tt : TT} {te : TLf} {vs : List Nat} {σ : L2.St} {Qd : Hp → Prop} {H : Hp} (W : Walk J n G Y) (Pv : Nat → Hp → Prop) (h0 : Pv 0 H) (hl : ∀ i H, i ≤ n → Pv i H → G H)
    (hs : ∀ i x H H', i < n → Pv i H → Y i H x H' → g x (wipe σ vs) H' fun σ2 H2 => wipe σ2 vs = wipe σ vs ∧ tt σ2 H2 fun b H3 => if b = true then te σ2 H3 (Pv (i + 1)) else Pv (i + 1) H3) (hd : ∀ H, Pv n H → Qd H) : ClR J g tt te vs σ Qd H := by
  refine ⟨fun i m H => m = n - i ∧ i ≤ n ∧ Pv i H, ⟨n, by simp, Nat.zero_le _, h0⟩, ?_⟩
  rintro i m H ⟨rfl, hi, p⟩
  have q := hl i H hi p
  by_cases lt : i < n
  · exact .inr ⟨W.goes i H lt q, Pv (i + 1), fun H' p' => ⟨n - (i + 1), by omega, rfl, lt, p'⟩, fun x H' y => hs i x H H' lt p (W.yields i H x H' lt q y)⟩
  · have e : i = n := by omega
    subst e
    exact .inl ⟨W.stops H q, hd H p⟩
end Mo
set_option Elab.async false
set_option linter.all false
set_option maxRecDepth 100000
set_option maxHeartbeats 4000000
/-! name = {k: v for .. for ..} on one line, the name a local -/
namespace Mo
open PySem PySem.Spec PyProof.Rows L2
section
variable {P : Program} {w : World} {A : Around} {env : Env}
variable {X : Cx} {elt : Expr} {scope : Scope} {own : List (Str × Nat)} {pos : Pos}
variable {P : Program} {w : World} {A : Around} {env : Env}
variable {X : Cx} {kx vx : Expr} {scope : Scope} {own : List (Str × Nat)} {pos : Pos}
theorem ps_setDc2 {i : Nat} {y : Str} {py spos : Pos} {tg iter tg1 iter1 : Expr} {ifs ifs1 : List Expr} {wi wi1 : TI} {g g1 : TG} {tt tt1 : TT} {tk tv : TE} {vs1 : List Nat} (hc : X.calm = true) (hN : X.N.Nodup) (hy : X.N[i]? = some y) (hyl : X.env.scope.names.lookup y = some .local)
    (hsw : swapsWith (.DictComp kx vx [⟨tg, iter, ifs, 0⟩, ⟨tg1, iter1, ifs1, 0⟩] scope pos) (some (.Name y py)) spos.line X.env = pure true) (hi : PI X tg iter wi) (ok : BlkOk X.N X.env.scope scope own) (hv : ∀ i ∈ vs1, i ∈ own.map (·.2))
    (hg : ∀ (s : Shared) (H : Hp) (C : Addr) (cl : List (Str × Addr)) (fp : List Addr), PG (X.blk s H scope (compEnvC scope cl C X.env) fp) tg g) (ht : ∀ (s : Shared) (H : Hp) (C : Addr) (cl : List (Str × Addr)) (fp : List Addr), PTs (X.blk s H scope (compEnvC scope cl C X.env) fp) ifs tt)
    (hi1 : ∀ (s : Shared) (H : Hp) (C : Addr) (cl : List (Str × Addr)) (fp : List Addr), PI (X.blk s H scope (compEnvC scope cl C X.env) fp) tg1 iter1 wi1)
    (hg1 : ∀ (s : Shared) (H : Hp) (C : Addr) (cl : List (Str × Addr)) (fp : List Addr), PG (X.blk s H scope (compEnvC scope cl C X.env) fp) tg1 g1) (ht1 : ∀ (s : Shared) (H : Hp) (C : Addr) (cl : List (Str × Addr)) (fp : List Addr), PTs (X.blk s H scope (compEnvC scope cl C X.env) fp) ifs1 tt1)
    (hk : ∀ (s : Shared) (H : Hp) (C : Addr) (cl : List (Str × Addr)) (fp : List Addr), PE (X.blk s H scope (compEnvC scope cl C X.env) fp) kx tk) (he : ∀ (s : Shared) (H : Hp) (C : Addr) (cl : List (Str × Addr)) (fp : List Addr), PE (X.blk s H scope (compEnvC scope cl C X.env) fp) vx tv)
    (hs : ∀ x, foldedSetIterable iter X.env x = pure x := by intro _; rfl) (hs1 : ∀ env x, foldedSetIterable iter1 env x = pure x := by intro _ _; rfl) :
    PS X (.Assign [.Name y py] (.DictComp kx vx [⟨tg, iter, ifs, 0⟩, ⟨tg1, iter1, ifs1, 0⟩] scope pos) spos) (tAsg (tCo (fun _ => .dK []) wi g tt (fun D => tIn wi1 g1 tt1 (tDk tk tv D) vs1) (own.map (·.2))) (gName i)) := by
  refine ⟨fun pins s σ H D I h => ?_⟩
  rw [exec_Assign_Name_used _ _ _ _ hsw]
  refine wpAny_bind (wpAny_standAt (wpAny_bind ?_))
  show wpAny _ X.A (do let _ ← comprehension (.DictComp kx vx [⟨tg, iter, ifs, 0⟩, ⟨tg1, iter1, ifs1, 0⟩] scope pos) scope X.env (firstIterPos [⟨tg, iter, ifs, 0⟩, ⟨tg1, iter1, ifs1, 0⟩] pos) newDict false (eval iter X.env) (some (assign (.Name y py) X.env))) _ _ s
  have h : tCo (fun _ => .dK []) wi g tt (fun D => tIn wi1 g1 tt1 (tDk tk tv D) vs1) (own.map (·.2)) σ H (fun x H1 => gName i x σ H1 D.nx) := h
  refine wpAny_bind (thn (co_coreU (use := some (assign (.Name y py) X.env)) (Qf := fun _ s' => SP X pins D .next s') (e := .DictComp kx vx [⟨tg, iter, ifs, 0⟩, ⟨tg1, iter1, ifs1, 0⟩] scope pos) (gs := [⟨tg1, iter1, ifs1, 0⟩]) (lp := fun it D env => .compLoop (.DictComp kx vx [⟨tg, iter, ifs, 0⟩, ⟨tg1, iter1, ifs1, 0⟩] scope pos) 0 (.ref it) (.ref D) env)
    (leaf := fun D env => leafIn X.prog X.w X.A (.DictComp kx vx [⟨tg, iter, ifs, 0⟩, ⟨tg1, iter1, ifs1, 0⟩] scope pos) iter1 (.ref D) env) rfl hc hN I hi ok newBy_dict
    (fun env it D => loop_dict2o (hs1 env)) (fun env it D R s h1 h2 => start_of compE_dict rfl rfl h1 h2) hg ht
    (fun s H C cl fp D => leafR_in hc rfl compE_dict rfl (hi1 s H C cl fp) (hg1 s H C cl fp) (ht1 s H C cl fp) (fun it => loop_dict2i) (leafR_dict rfl (hk s H C cl fp) (he s H C cl fp)) hv) hs h fun L C s' m H' I' q hn f => ?_) fun _ s' hq => wpAny_pure (wpAny_pure hq))
  show wpAny _ _ (assign (.Name y py) X.env (.ref L)) _ _ _
  refine wpAny_assign_Name (store_ok2 (v := V.ref L) I' hN hy (.inl hyl) rfl (fun s2 I2 ⟨a, sb, ha⟩ => ?_) (.inr hyl))
  obtain ⟨f0, f1, f2, f3, f4, f5⟩ := f
  have haC : C ≠ a := by
    rcases ha with z | z
    · rw [z]; exact f1
    · exact fun e => f4 y a z e.symm
  refine ⟨m, hn.sameBut sb haC, fun h3 sb3 => ?_⟩
  exact ⟨_, H', I2.turned (t' := s2.toks) (fun b o hb e => (sb3.2 b hb).trans e) f0 f1 f3 f4 f5, q⟩
theorem sw_trueD {kx vx : Expr} {gs : List Comprehension} {scope : Scope} {pos py : Pos} {y : Str} {l : Nat} {env : Env} (hk : env.scope.kind = .function) (hy : env.scope.names.lookup y = some .local) (hl : (py.line == pos.line) = true)
    (ha : (scope.names.any fun (n, k) => n == y && (k == .local || k == .cell)) = false) : swapsWith (.DictComp kx vx gs scope pos) (some (.Name y py)) l env = pure true := by
  have ky : env.kindOf y = some .local := hy
  have hb : env.blockKind = .function := by unfold Env.blockKind; rw [hk]; rfl
  unfold swapsWith
  simp only [hb, ky, ha, Expr.pos, hl]
  rfl
end
end Mo
set_option Elab.async false
set_option linter.all false
set_option maxRecDepth 100000
set_option maxHeartbeats 4000000
/-! sorted(set of texts), set(list of texts) -/
noncomputable section
namespace Mo
open PySem PySem.Spec PyProof.Rows L2 PySem.Froz PySem.W

/-! ### texts in order -/
def leS (a b : Str) : Prop := ¬ (b.cps.toList < a.cps.toList)
theorem leS_antisymm {a b : Str} (h1 : leS a b) (h2 : leS b a) : a = b := str_of_cps (List.le_antisymm (List.not_lt.mp h1) (List.not_lt.mp h2))
theorem sorted_one : ∀ {xs ys : List Str}, xs.Perm ys → xs.Pairwise leS → ys.Pairwise leS → xs = ys
  | [], ys, p, _, _ => (List.nil_perm.mp p).symm
  | x :: xs, [], p, _, _ => absurd p.length_eq (by simp)
  | x :: xs, y :: ys, p, h1, h2 => by
    obtain ⟨a1, a2⟩ := List.pairwise_cons.mp h1
    obtain ⟨b1, b2⟩ := List.pairwise_cons.mp h2
    have e : x = y := by
      rcases List.mem_cons.mp (p.mem_iff.mp List.mem_cons_self) with e | m
      · exact e
      · rcases List.mem_cons.mp (p.mem_iff.mpr List.mem_cons_self) with e2 | m2
        · exact e2.symm
        · exact leS_antisymm (a1 y m2) (b1 x m)
    subst e
    rw [sorted_one (List.Perm.cons_inv p) a2 b2]
theorem dataLe_text : dataLe false (fun b : Str => PyData.str b) = fun a b => decide (a.cps.toList ≤ b.cps.toList) := dataLe_str id
theorem sort_leS (bs : List Str) : (bs.mergeSort (dataLe false PyData.str)).Pairwise leS := by
  have z := List.pairwise_mergeSort (le := dataLe false PyData.str) (fun a b c h1 h2 => ?_) (fun a b => ?_) bs
  · refine z.imp fun {a b} h => ?_
    have e : dataLe false PyData.str a b = decide (a.cps.toList ≤ b.cps.toList) := congrFun (congrFun dataLe_text a) b
    rw [e] at h
    exact List.not_lt.mpr (of_decide_eq_true h)
  · have e : ∀ a b : Str, dataLe false PyData.str a b = decide (a.cps.toList ≤ b.cps.toList) := fun a b => congrFun (congrFun dataLe_text a) b
    rw [e] at h1 h2 ⊢
    exact decide_eq_true (List.le_trans (of_decide_eq_true h1) (of_decide_eq_true h2))
  · have e : ∀ a b : Str, dataLe false PyData.str a b = decide (a.cps.toList ≤ b.cps.toList) := fun a b => congrFun (congrFun dataLe_text a) b
    rw [e, e]
    rcases List.le_total a.cps.toList b.cps.toList with h | h
    · rw [decide_eq_true h]; rfl
    · rw [decide_eq_true h, Bool.or_true]
/-- a list without doubles within another of its length is a rearrangement of it -/
theorem perm_within {α : Type} [DecidableEq α] : ∀ {l m : List α}, l.Nodup → (∀ x ∈ l, x ∈ m) → m.length = l.length → l.Perm m
  | [], m, _, _, h => by rw [List.length_eq_zero_iff.mp h]
  | x :: l, m, nd, sub, h => by
    obtain ⟨n1, n2⟩ := List.nodup_cons.mp nd
    have mx := sub x List.mem_cons_self
    have p := List.perm_cons_erase mx
    have lm : (m.erase x).length = l.length := by
      have := p.length_eq
      rw [List.length_cons] at this
      rw [List.length_cons] at h
      omega
    refine ((perm_within n2 (fun y hy => ?_) lm).cons x).trans p.symm
    exact (List.mem_erase_of_ne fun e => n1 (by rw [← e]; exact hy)).mpr (sub y (List.mem_cons_of_mem _ hy))
/-! ### the members -/
section
variable {P : Program} {w : World} {A : Around} {E : Value → Shared → Prop} {s : Shared}
def txV : Value → Str
  | .str x _ => x
  | _ => Str.empty
theorem TxOk.vals {D : SD} {l : List Str} (F : TxOk P w D l) (nd : l.Nodup) : (∀ v ∈ D.1.toList.map (·.2), ∃ t, v = .str (txV v) t) ∧ (D.1.toList.map fun e => txV e.2).Perm l := by
  have str : ∀ e ∈ D.1.toList, ∃ t, e.2 = .str (txV e.2) t := fun e he => by
    obtain ⟨⟨k, h, _⟩, _⟩ := F.el e he
    obtain ⟨t, q⟩ := Value.isStrOf_shape (x := k) (v := e.2) h
    rw [q]
    exact ⟨t, rfl⟩
  refine ⟨fun v hv => ?_, (perm_within nd (fun k hk => ?_) ?_).symm⟩
  · obtain ⟨e, he, rfl⟩ := List.mem_map.mp hv
    exact str e he
  · obtain ⟨e, he, q⟩ := (F.mem k).mp hk
    obtain ⟨t, z⟩ := Value.isStrOf_shape (x := k) (v := e.2) q
    exact List.mem_map.mpr ⟨e, he, by rw [z]; rfl⟩
  · rw [List.length_map, Array.length_toList]
    exact F.sz
theorem each_texts : ∀ vs : List Value, (∀ v ∈ vs, ∃ t, v = .str (txV v) t) → EachIs (fun v (b : Str) => ∃ t, v = .str b t) vs (vs.map txV)
  | [], _ => .nil
  | v :: vs, h => .cons (h v List.mem_cons_self) (each_texts vs fun u hu => h u (List.mem_cons_of_mem _ hu))
theorem each_vals : ∀ {vs : List Value} {bs : List Str}, EachIs (fun v (b : Str) => ∃ t, v = .str b t) vs bs → Vals (bs.map V.str) vs
  | _, _, .nil => .nil
  | _, _, .cons h t => .cons h (each_vals t)
end
section
variable {X : Cx}
/-- sorted(s) of a set of texts -/
theorem cr_sortedT (hc : X.calm = true) (hu : X.A.units + 3 < cLine) : CallR X (.builtin "sorted") (fun vs H Q => ∃ (a : Addr) (l : List Str), vs = [.ref a] ∧ H a = some (SetT X.prog X.w a l) ∧
    ∀ (ys : List Str) (p : Addr), ys.Perm l → ys.Pairwise leS → H p = none → Q (.ref p) (upd H p (.lst (ys.map V.str)))) := by
  intro pins s σ H xs us Q I r q
  obtain ⟨a, l, rfl, ha, q⟩ := q
  obtain ⟨u, rfl, ru⟩ := vals1 r
  cases ru
  obtain ⟨D, ho, F⟩ := setT_get I ha
  obtain ⟨tvs, pm⟩ := TxOk.vals F.tx F.nd
  have sz : D.1.size = l.length := F.tx.sz
  have few : D.1.size < scanBound := by rw [sz]; exact F.few
  refine Calls.call_function_entry PyProof.Rows.kind_sorted PyProof.Rows.plain_sorted PyProof.Rows.entry_sorted (PyProof.Rows.args_sorted1 _) ?_
  unfold Builtin.«sorted»
  refine wpAny_bind (m := checkCount "sorted" 1 1 _) (wpAny_pure ?_)
  refine wpAny_bind (collect_set (A := X.A.in1) (es := D.1) (ep := D.2.1) (t := D.2.2) (I.ok.hd hc) ⟨_, ho, rfl, rfl⟩ F.tx.fit few F.ris F.led fun s1 vs k1 le1 g1 o1 pv => ?_)
  have I1 : Inv X pins σ H s1 := I.call' (ch := []) o1 (Un.kept k1) (I.hok.kept k1) (by rw [g1]; exact I.bare) (fun _ z => nomatch z)
  have hv : ∀ v ∈ vs, ∃ t, v = .str (txV v) t := fun v hv => tvs v (pv.mem_iff.mp hv)
  have e := each_texts vs hv
  have pl : (vs.map txV).Perm l := by
    have z := pv.map txV
    rw [List.map_map] at z
    exact z.trans pm
  have len : vs.length ≤ sizeLine := by
    have z := pl.length_eq
    rw [List.length_map] at z
    rw [z]
    exact fits_of_scanBound F.few
  refine wpAny_bind (wpAny_newList ?_ len)
  have hoL : (s1.heap.push (seqObj "list" vs.toArray 0)).get? s1.heap.objs.size = some (seqObj "list" vs.toArray 0) := Heap.get?_push_size _ rfl
  refine wpAny_bind (wpAny_holding (list_sort_data (s := { s1 with heap := s1.heap.push (seqObj "list" vs.toArray 0) }) (bs := vs.map txV) (enc := PyData.str) hoL e (e.mono fun v b ⟨t, h⟩ => ⟨[], by rw [h]; exact .str b t, List.not_mem_nil⟩) (AllAlike.of fun b b' => by simp [alike])
    (Sortable.others fun b => ⟨PyData.noConfusion, fun xs => PyData.noConfusion⟩) (by rw [List.length_map]; exact len) (fun b _ => by show X.A.units + 1 + 1 + PyData.depth (.str b) < cLine; simp only [PyData.depth]; omega) fun out ol eo => ?_))
  obtain ⟨c, hc2⟩ := PyProof.Rows.sortedHeap_at (vs := vs) (out := out.toArray) hoL
  have ps : ((vs.map txV).mergeSort (dataLe false PyData.str)).Perm l := (List.mergeSort_perm _ _).trans pl
  have ll : (((vs.map txV).mergeSort (dataLe false PyData.str)).map V.str).length ≤ sizeLine := by
    rw [List.length_map, ps.length_eq]
    exact fits_of_scanBound F.few
  refine wpAny_pure ⟨_, rfl, .ref s1.heap.objs.size, upd H s1.heap.objs.size (.lst (((vs.map txV).mergeSort (dataLe false PyData.str)).map V.str)), I1.laid (t' := s1.toks) (fun b o z => ?_) (Nat.le_refl _) ⟨ll, out, c, each_vals eo, hc2⟩, rfl, q _ _ ps (sort_leS _) (I1.hok.fresh (Nat.le_refl _))⟩
  have lt : b < s1.heap.objs.size := Heap.lt_size z
  rw [PyProof.Rows.sortedHeap_old (Nat.ne_of_lt lt) (by rw [size_push']; exact Nat.lt_succ_of_lt lt)]
  exact Heap.get?_push_of_some _ z
end
end Mo
set_option Elab.async false
set_option linter.all false
set_option maxRecDepth 100000
set_option maxHeartbeats 4000000
/-! set(list of texts) -/
noncomputable section
namespace Mo
open PySem PySem.Spec PyProof.Rows L2 PySem.Froz

/-- the texts of a list, each once -/
def metT : List Str → List Str
  | [] => []
  | k :: r => put1 k (metT r)
theorem mem_metT {x : Str} : ∀ {xs : List Str}, x ∈ metT xs ↔ x ∈ xs
  | [] => Iff.rfl
  | k :: r => by
    show x ∈ put1 k (metT r) ↔ _
    rw [mem_put1, List.mem_cons, mem_metT (xs := r)]
theorem metT_nd : ∀ xs : List Str, (metT xs).Nodup
  | [] => List.nodup_nil
  | k :: r => put1_nd (metT_nd r)
theorem metT_len : ∀ xs : List Str, (metT xs).length ≤ xs.length
  | [] => Nat.le_refl _
  | k :: r => by
    have a := put1_len k (metT r)
    have b := metT_len r
    show (put1 k (metT r)).length ≤ _
    rw [List.length_cons]
    omega
def upTo (xs : List Str) (i : Nat) : List Str := metT (xs.take i).reverse
theorem upTo_succ {xs : List Str} {i : Nat} {k : Str} (h : xs[i]? = some k) : upTo xs (i + 1) = put1 k (upTo xs i) := by
  unfold upTo
  rw [List.take_add_one, h]
  simp only [Option.toList_some, List.reverse_append, List.reverse_cons, List.reverse_nil, List.nil_append, List.singleton_append]
  rfl
section
variable {P : Program} {w : World} {A : Around} {R : Result → Shared → Prop} {I : Addr} {fp wr : List Addr} {G : Array GenState → Array GenState → Prop} {n : Nat} {Pv : Nat → Value → Prop} {St : Nat → Shared → Prop}
theorem fill_loop (W : WalksS P w A.in1 I fp wr G n Pv St) (D : Addr) (hD : D ∉ fp) (xs : List Str) (hn : xs.length = n) (few : n + 1 < scanBound) (hv : ∀ i v, Pv i v → ∃ k t, xs[i]? = some k ∧ v = .str k t) :
    ∀ (m i : Nat) (s : Shared), n - i = m → i ≤ n → St i s → SetTx P w s.heap D (upTo xs i) → (∀ s', Moved (D :: wr) G s s' → SetTx P w s'.heap D (upTo xs n) → R (.ok (.ret .none)) s') →
      codeAny (model P w) A (.builtin "set.update.loop" ⟨[.ref D, .ref I], []⟩) R s := by
  have out : D ∉ wr := fun h => hD (W.sub _ h)
  have more : ∀ b ∈ wr, b ∈ D :: wr := fun b hb => List.mem_cons_of_mem _ hb
  intro m
  induction m with
  | zero =>
    intro i s e le st x q
    obtain rfl : i = n := by omega
    refine codeAny_builtin PyProof.Rows.F.entry_set_update_loop ?_
    rw [Around.under_plainId PyProof.Rows.F.plain_set_update_loop _]
    show wpAny _ A.in1 (pyNext (.ref I) >>= _) _ _ s
    refine wpAny_bind (W.done s _ _ st fun s' mv => ?_)
    show wpAny _ A.in1 (ret Value.none) _ _ s'
    exact wpAny_pure (q s' (mv.mono more) (x.at fun o e => mv.heap D o out e))
  | succ m ih =>
    intro i s e le st x q
    have lt : i < n := by omega
    refine codeAny_builtin PyProof.Rows.F.entry_set_update_loop ?_
    rw [Around.under_plainId PyProof.Rows.F.plain_set_update_loop _]
    show wpAny _ A.in1 (pyNext (.ref I) >>= _) _ _ s
    refine wpAny_bind (W.item i s _ _ lt st fun v s' pv st' mv => ?_)
    obtain ⟨k, t, hk, rfl⟩ := hv i v pv
    have x' : SetTx P w s'.heap D (upTo xs i) := x.at fun o e => mv.heap D o out e
    show wpAny _ A.in1 (holding [Value.str k t] (setAdd D (.str k t)) >>= _) _ _ s'
    refine wpAny_bind (wpAny_holding ?_)
    unfold setAdd
    refine wpAny_holding (wpAny_bind ((strKind P w).pyHash (is_str k t) ?_))
    have room : (upTo xs i).length + 1 < scanBound := by
      have a := metT_len (xs.take i).reverse
      rw [List.length_reverse, List.length_take] at a
      show (metT (xs.take i).reverse).length + 1 < _
      omega
    refine addT_hashed (s := { s' with toks := s'.toks + 1 }) x' room fun b h' sb y => ?_
    rw [← upTo_succ hk] at y
    refine wpAny_pure ⟨plainId_quiet PyProof.Rows.F.plain_set_update_loop _, ih (i + 1) _ (by omega) lt (W.frame _ s' _ _ st' (Nat.le_succ _) fun b hb o e => ?_) y fun s'' mv2 y2 => ?_⟩
    · rw [sb.2 b fun z => hD (by rw [← z]; exact hb)]
      exact e
    · refine q s'' (Moved.trans W.gtrans ((mv.mono more).then_heap (Nat.le_succ _) fun b o hb e => ?_) mv2) y2
      rw [sb.2 b fun z => hb (by rw [z]; exact List.mem_cons_self)]
      exact e
end
section
variable {P : Program} {w : World} {A : Around} {E : Value → Shared → Prop} {s : Shared}
/-- the empty set that set(x) begins with -/
def freshO (w : World) : Obj := { cls := .type "set", dict := none, data := .set #[] 0 (.fresh 0 0 (!w.params.followText "set-order")) }
theorem new_led (a : Value) {Q : Value → Shared → Prop} (h : Q (.ref s.heap.objs.size) { s with heap := s.heap.push (freshO w) }) : codeAny (model P w) A (.call (.builtin "set.__new__") ⟨[.type "set", a], []⟩) (wants Q E) s := by
  refine codeAny_of_tree ?_
  show wpAny _ A.in1 (do checkBuiltinCall "set.__new__" ⟨[.type "set", a], []⟩; again (.builtin "set.__new__" ⟨[.type "set", a], []⟩)) _ _ s
  refine wpAny_bind (wpAny_of_eq (PySem.F.newCall_set_1 a) (wpAny_pure ⟨plainId_quiet PySem.F.plain_set_new _, codeAny_builtin PySem.F.entry_set_new ?_⟩))
  rw [Around.under_plainId PySem.F.plain_set_new _]
  unfold Builtin.«set.__new__» Builtin.Frozenset.newClass
  have sub := sub_set_self
  unfold freshO at h
  obtain ⟨hp, g, d, tk, os⟩ := s
  dsimp only
  wp_walk
  refine wpAny_askSetting (wpAny_pure ?_)
  dsimp only
  simp only [newObj]
  exact wpAny_bind (wpAny_alloc (wpAny_pure (wpAny_pure h)))
set_option maxHeartbeats 8000000 in
theorem set_of_list {l : Addr} {its : Array Value} {xs : List Str} {Q : Value → Shared → Prop} (hh : A.handled = none) (hl : s.heap.IsList l its) (hi : StrsAre its.toList xs) (few : xs.length + 1 < scanBound)
    (q : ∀ (h' : Heap) (tk : Nat), SetTx P w h' s.heap.objs.size (upTo xs xs.length) → (∀ b o, s.heap.get? b = some o → h'.get? b = some o) → Q (.ref s.heap.objs.size) { s with heap := h', toks := tk }) :
    wpAny (model P w) A (call (.type "set") [.ref l]) Q E s := by
  obtain ⟨c, tl, hmro⟩ := PySem.F.called_set.mro
  have made := PySem.F.called_set.made
  have sub := PySem.F.called_set.sub
  refine wpAny_call (codeAny_of_tree ?_)
  show wpAny _ _ (callAny (.type "set") _) _ _ _
  refine wpAny_pure ⟨Code.quiet_builtin _ (by decide +kernel), codeAny_builtin PySem.F.entry_type_call ?_⟩
  rw [Around.under_plain (weight_type_call_type "set" [.ref l] []) rfl]
  have g1 := PySem.F.called_set.notType
  have g2 := PySem.F.called_set.canCreate
  have g3 := PySem.F.typeCall_set_1 (.ref l)
  repeat (any_goals (first | assumption | wp_step))
  refine codeAny_mono (new_led (.ref l) (E := E) (Q := fun obj s1 => obj = .ref s.heap.objs.size ∧ s1 = { s with heap := s.heap.push (freshO w) }) ⟨rfl, rfl⟩) fun r s1 hr => ?_
  match r, hr with
  | .error e, hr => exact hr
  | .ok .next, hr => exact hr.elim
  | .ok .brk, hr => exact hr.elim
  | .ok .cont, hr => exact hr.elim
  | .ok (.ret obj), hr =>
    obtain ⟨rfl, rfl⟩ := hr
    have hS : (s.heap.push (freshO w)).get? s.heap.objs.size = some (freshO w) := Heap.get?_push_size _ rfl
    have hT : Shared.TypeIs { s with heap := s.heap.push (freshO w) } (.ref s.heap.objs.size) "set" := ⟨_, hS, rfl⟩
    have k1 := PySem.F.called_set.init.lookup
    have k2 := PySem.F.called_set.init.bind (.ref s.heap.objs.size)
    repeat (any_goals (first | assumption | wp_step))
    refine codeAny_mono (codeAny_call_builtin (R := wants (fun r s2 => r = .none ∧ ∃ h' tk, s2 = { s with heap := h', toks := tk } ∧ SetTx P w h' s.heap.objs.size (upTo xs xs.length) ∧ ∀ b o, s.heap.get? b = some o → h'.get? b = some o) E) PySem.F.called_set.init.plain PySem.F.entry_set_init (check_set_init_1 hT ?_)) fun r2 s2 hr2 => ?_
    · obtain ⟨⟨oc, od, dt, sl⟩, ho, hc, nl, hd⟩ := hl
      simp only at hc hd
      subst hc
      subst hd
      have ho1 : (s.heap.push (freshO w)).get? l = some { cls := .type "list", dict := od, data := .seq its nl, slots := sl } := Heap.get?_push_of_some _ ho
      have f1 := PySem.F.sub_list_set
      have f2 := PySem.F.sub_list_frozenset
      have f3 : (Value.type "list" == Value.type "dict") = false := by decide
      have hl1 : (s.heap.push (freshO w)).IsList l its := ⟨_, ho1, rfl, nl, rfl⟩
      unfold Builtin.«set.__init__» noKeywords Builtin.Frozenset.updateFrom
      generalize hPI : pyIter = PI
      wp_walk
      subst hPI
      refine wpAny_pyIter_list hl1 ?_
      refine wpAny_bind (wpAny_runValue ?_)
      have lt : l < s.heap.objs.size := Heap.lt_size ho
      have hh3 : A.in1.in1.in1.handled = none := by simp [hh]
      have sz : (s.heap.push (freshO w)).objs.size = s.heap.objs.size + 1 := Heap.size_push ..
      have ne : l ≠ (s.heap.push (freshO w)).objs.size := by
        rw [sz]
        exact Nat.ne_of_lt (Nat.lt_succ_of_lt lt)
      have nf : s.heap.objs.size ∉ [(s.heap.push (freshO w)).objs.size, l] := by
        rw [sz]
        simp only [List.mem_cons, List.not_mem_nil, or_false, not_or]
        exact ⟨Nat.ne_of_lt (Nat.lt_succ_self _), Nat.ne_of_gt lt⟩
      have hn : xs.length = its.size := by rw [← StrsAre.len_eq hi, Array.length_toList]
      refine fill_loop ((Walks.list hh3 _ l ne its).toS) s.heap.objs.size nf xs hn (by rw [← hn]; exact few) (fun i v e => ?_) (its.size - 0) 0 _ (by omega) (Nat.zero_le _) ⟨⟨_, Heap.get?_push_size _ rfl, rfl, rfl⟩, (hl1.push _)⟩ ?_ fun s' mv y => ?_
      · obtain ⟨t, e1⟩ := SS.strs_at hi i v (by rw [Array.getElem?_toList]; exact e)
        have lt2 : i < xs.length := by
          rw [hn]
          exact (Array.getElem?_eq_some_iff.mp e).1
        exact ⟨xs[i], t, List.getElem?_eq_getElem lt2, by rw [e1, List.getD_eq_getElem?_getD, List.getElem?_eq_getElem lt2]; rfl⟩
      · have z : SetTx P w (s.heap.push (freshO w)) s.heap.objs.size [] := setTx_new P w
        exact z.at fun o e => Heap.get?_push_of_some _ e
      · obtain ⟨h', g', d', tk', os'⟩ := s'
        have eg : g' = s.gens := mv.gens
        have ed : d' = s.drawn := mv.drawn
        have eo : os' = s.os := mv.os
        subst eg
        subst ed
        subst eo
        show wpAny _ _ _ _ _ _
        refine wpAny_pure ?_
        show wpAny _ _ (ret Value.none) _ _ _
        rw [← hn] at y
        refine wpAny_pure ⟨rfl, h', tk', rfl, y, fun b o e => ?_⟩
        have lb : b < s.heap.objs.size := Heap.lt_size e
        refine mv.heap b o ?_ (Heap.get?_push_of_some _ (Heap.get?_push_of_some _ e))
        simp only [List.mem_cons, List.not_mem_nil, or_false, not_or]
        rw [sz]
        exact ⟨Nat.ne_of_lt lb, Nat.ne_of_lt (Nat.lt_succ_of_lt lb)⟩
    · match r2, hr2 with
      | .error e, hr2 => exact hr2
      | .ok .next, hr2 => exact hr2.elim
      | .ok .brk, hr2 => exact hr2.elim
      | .ok .cont, hr2 => exact hr2.elim
      | .ok (.ret r), hr2 =>
        obtain ⟨rfl, h', tk, rfl, y, kp⟩ := hr2
        repeat (any_goals (first | assumption | wp_step))
        exact q _ _ y kp
end
section
variable {X : Cx}
/-- set(xs) of a list of texts -/
theorem cr_setL (hc : X.calm = true) : CallR X (.type "set") (fun vs H Q => ∃ (a : Addr) (xs : List Str), vs = [.ref a] ∧ SqL X.K H a (xs.map V.str) ∧ xs.length + 1 < scanBound ∧ ∀ p l, H p = none → l.Nodup → (∀ k, k ∈ l ↔ k ∈ xs) → Q (.ref p) (upd H p (SetT X.prog X.w p l))) := by
  intro pins s σ H vs us Q I r q
  obtain ⟨a, xs, rfl, ha, few, q⟩ := q
  obtain ⟨u, rfl, ru⟩ := vals1 r
  cases ru
  obtain ⟨its, rv, pl, hz⟩ := I.list ha
  refine set_of_list (I.ok.hd hc) pl.isList (by simpa using L2.strsAre_of rv) few fun h' tk y kp => ?_
  have I1 : Inv X pins σ H { s with heap := h', toks := tk } := I.kept kp
  refine ⟨.ref s.heap.objs.size, upd H s.heap.objs.size (SetT X.prog X.w s.heap.objs.size (upTo xs xs.length)), I.laid (t' := tk) kp (Nat.le_refl _) (setT_new y), rfl, q _ _ (I.hok.fresh (Nat.le_refl _)) (metT_nd _) fun k => ?_⟩
  show k ∈ metT (xs.take xs.length).reverse ↔ _
  rw [mem_metT, List.mem_reverse, List.take_length]
end
end Mo
set_option Elab.async false
set_option linter.all false
set_option maxRecDepth 100000
set_option maxHeartbeats 4000000
/-! tuple(reversed(list)), the new tuple's object known -/
namespace Mo
open PySem PySem.Spec PyProof.Rows L2 RT
def tRevX (K : PySem.W.Frag) (te : TE) : TE := fun σ H Q => te σ H fun v H1 => ∃ (a : Addr) (xs : List V), v = .ref a ∧ SqL K H1 a xs ∧ newX H1 xs.reverse Q
section
variable {X : Cx}
theorem pe_revX {e : Expr} {te : TE} {p p2 pos pos2 : Pos} (hc : X.calm = true) (hg : Gl X "tuple") (hm : X.mg "tuple" = none) (hg2 : Gl X "reversed") (hm2 : X.mg "reversed" = none) (he : PE X e te)
    (hs : starEach [e] X.env = (false, eval e X.env) :: starEach [] X.env := by rfl)
    (hs2 : starEach [.Call (.Name "reversed" p2) [e] [] pos2] X.env = (false, eval (.Call (.Name "reversed" p2) [e] [] pos2) X.env) :: starEach [] X.env := by rfl) :
    PE X (.Call (.Name "tuple" p) [.Call (.Name "reversed" p2) [e] [] pos2] [] pos) (tRevX X.K te) := by
  constructor
  intro pins s σ H Q I h
  have inner := he.run pins s σ H _ I h
  refine Call_ (ld_blt I hg hm boot_tuple (PyProof.Rows.callWith_type1 (args_cons (Call_ (ld_blt I hg2 hm2 PyProof.Rows.boot_reversed (PyProof.Rows.callWith_type1 (args_cons (thn inner ?_) hs) hs rfl))) hs2) hs2 rfl))
  rintro u s1 ⟨v, H1, I1, r1, a, xs, rfl, hq, q⟩
  cases r1
  refine args_nil ?_
  obtain ⟨its, rv, p', hz⟩ := I1.list hq
  have isl := p'.isList
  have few : its.toArray.size ≤ sizeLine := by rw [List.size_toArray, ← rv.length]; exact hz
  refine call_reversed_list isl (args_nil ?_)
  have pushed : Inv X pins σ H1 { s1 with heap := s1.heap.push (revObj a ((its.toArray.size : Int) - 1)) } := I1.kept (t' := s1.toks) fun b o z => Heap.get?_push_of_some _ z
  obtain ⟨f0, f1, f2, f3, f4, f5⟩ := I1.fpOk (H' := H1) (b := s1.heap.objs.size) (Nat.le_refl _) (I1.hok.fresh (Nat.le_refl _))
  obtain ⟨ol, hol, _⟩ := id isl
  refine call_tuple_rev (s := { s1 with heap := s1.heap.push (revObj a ((its.toArray.size : Int) - 1)) }) (I1.ok.hd hc) ⟨_, Heap.get?_push_size _ rfl, rfl, rfl⟩ (isl.push _) (Nat.ne_of_lt (Heap.lt_size hol)) few fun h' tk acc hk hi => ?_
  have I3 : Inv X pins σ H1 { s1 with heap := h', toks := tk } := pushed.turned (t' := tk) (fun b o hb e => hk b o hb e) f0 f1 f3 f4 f5
  have L := laidX (t' := tk) I3 (by rw [List.length_reverse]; exact hz) (vals_rev rv hi)
  rw [Array.toArray_toList] at L
  exact ⟨.ref h'.objs.size, _, L, rfl, q _ _ rfl (I3.hok.fresh (Nat.le_refl _))⟩
end
end Mo
set_option Elab.async false
set_option linter.all false
set_option maxRecDepth 100000
set_option maxHeartbeats 4000000
namespace K07
open PySem PySem.Spec PyProof.Rows L2 Mo
section
variable {w : World} {K : PySem.W.Frag} {mg : Str → Option Value} {base : Heap} {A : Ads}
theorem ok_law_take (T : Txt K mg A) : FnOk P w K mg base CX0 1 A.a_law_take A.d_law_take ["_law_source_here", "_law_many"] spTake := by
  have nd := sc_law_take.nd
  refine T.f_law_take.ok sc_law_take (fun vs H Q E h => ?_) (fun cdv A' outer s H vs Q E hr h => ?_)
  · obtain ⟨a, m, rfl, _⟩ := h
    rfl
  · obtain ⟨a, m, rfl, ⟨x, y, c, ha, x0, x1⟩, m0, m1, k⟩ := h
    refine ⟨_, (pss_cons (ps_asg (pe_op op_add (pe_ix ix_list (pv 0) pe_int (fun _ _ => rfl)) pe_int) (pg_sub (pv 0) pe_int set_list))
      (pss_cons (ps_if (pt_cmpR op_gt (pe_ix ix_list (pv 0) pe_int (fun _ _ => rfl)) pe_int (nomark _)) (pss_cons (ps_asg (pe_callB call_divmod (by rfl) T.b_divmod (by decide +kernel) (pa_cons (pe_ix ix_list (pv 0) pe_int (fun _ _ => rfl)) (pa_cons (pv 1) pa_nil))) (pg_tup rfl (pgs_cons (pg_sub (pv 0) pe_int set_list) (pgs_cons (pg_name (i := 3) nd rfl (Or.inl rfl)) pgs_nil))))
      (pss_one (ps_ret (pv 3)))) pss_nil)
      (pss_cons (ps_set (i := 2) nd rfl (Or.inl rfl) (pe_callTy call_int1 (by rfl) T.b_int (by decide +kernel) (pa_cons (pe_ix ix_list (pv 0) pe_int (fun _ _ => rfl)) pa_nil)))
      (pss_cons (ps_asg (pe_op op_mod (pe_callTy call_int1 (by rfl) T.b_int (by decide +kernel) (pa_cons (pe_op op_add (pe_op op_add (pe_op op_mul (pv 2) (pe_op op_add (pe_op op_fdiv (pv 2) pe_int) pe_int)) (pe_op op_mul pe_int (pe_ix ix_list (pv 0) pe_int (fun _ _ => rfl)))) pe_int) pa_nil)) pe_int) (pg_sub (pv 0) pe_int set_list))
      (pss_one (ps_ret (pe_op op_mod (pe_callTy call_int1 (by rfl) T.b_int (by decide +kernel) (pa_cons (pe_op op_fdiv (pe_ix ix_list (pv 0) pe_int (fun _ _ => rfl)) pe_int) pa_nil)) (pv 1)))))))), ?_⟩
    -- the count
    refine ⟨_, rfl, a, _, _, _, rfl, rfl, SqL.of ha, rfl, _, _, rfl, rfl, _, rfl, a, _, _, _, rfl, rfl, ha, rfl, ?_⟩
    -- are there figures
    refine ⟨_, rfl, a, _, _, _, rfl, rfl, SqL.of upd_same, rfl, _, _, rfl, rfl, _, rfl, ?_⟩
    refine ite2 (fun hy => ?_) (fun hy => ?_)
    · refine ⟨_, rfl, a, _, _, _, rfl, rfl, SqL.of upd_same, rfl, _, rfl, y, m, rfl, ⟨m0, m1⟩, ?_⟩
      intro p hp
      have npa : a ≠ p := ne_of_none upd_same hp
      refine ⟨p, _, rfl, SqT.of upd_same, rfl, ?_⟩
      refine ⟨_, _, rfl, _, rfl, a, _, _, _, rfl, rfl, (upd_ne npa).trans upd_same, rfl, _, _, rfl, rfl, ?_⟩
      refine ⟨_, rfl, ?_⟩
      refine k (y % m) _ (Int.emod_nonneg _ (by omega)) (Int.emod_lt_of_pos _ m0) ⟨x, y / m, c + 1, upd_same, x0, x1⟩ ?_
      intro b o hb e
      have hbp : b ≠ p := fun z => by
        subst z
        rw [upd_ne hb, e] at hp
        cases hp
      rw [upd_ne hb, upd_ne hbp, upd_ne hb]
      exact e
    · refine ⟨_, rfl, a, _, _, _, rfl, rfl, SqL.of upd_same, rfl, Or.inl ⟨x, rfl, ?_⟩⟩
      have x2 : 0 ≤ x / 7 := Int.ediv_nonneg x0 (by decide)
      refine ⟨_, rfl, _, rfl, _, _, rfl, rfl, ⟨by decide, by decide⟩, _, _, rfl, rfl, _, _, rfl, rfl, Or.inl ⟨by omega, by omega⟩,
        _, rfl, a, _, _, _, rfl, rfl, SqL.of upd_same, rfl, _, _, rfl, rfl, Or.inl ⟨by decide, by decide⟩, _, _, rfl, rfl, _, _, rfl, rfl, Or.inl ⟨_, rfl, ?_⟩⟩
      refine ⟨_, _, rfl, rfl, (by show (0 : Int) < 2147483587; decide), _, rfl, a, _, _, _, rfl, rfl, upd_same, rfl, ?_⟩
      refine ⟨_, rfl, a, _, _, _, rfl, rfl, SqL.of upd_same, rfl, _, _, rfl, rfl, ⟨by decide, by decide⟩, Or.inl ⟨_, rfl, ?_⟩⟩
      refine ⟨_, rfl, _, _, rfl, rfl, m0, ?_⟩
      refine k _ _ (Int.emod_nonneg _ (by omega)) (Int.emod_lt_of_pos _ m0) ⟨_, y, c + 1, upd_same, Int.emod_nonneg _ (by decide), ?_⟩ ?_
      · exact Int.le_of_lt (Int.emod_lt_of_pos _ (by decide))
      · intro b o hb e
        rw [upd_ne hb, upd_ne hb]
        exact e
theorem ok_law_source (T : Txt K mg A) : FnOk P w K mg base CX0 1 A.a_law_source A.d_law_source ["_law_number_here"] spSource := by
  have nd := sc_law_source.nd
  refine T.f_law_source.ok sc_law_source (fun vs H Q E h => ?_) (fun cdv A' outer s H vs Q E hr h => ?_)
  · obtain ⟨n, rfl, _⟩ := h
    rfl
  · obtain ⟨n, rfl, k⟩ := h
    refine ⟨_, (pss_cons (ps_set (i := 1) nd rfl (Or.inl rfl) (pe_ifExp (PW.pt (pw_or (pt_cmpR op_lt (pv 0) pe_int (nomark _)) (pw_or1 (pt_cmpR op_ge (pv 0) (pe_op op_pow pe_int pe_int) (nomark _))))) (pe_callB call_abs (by rfl) T.b_abs (by decide +kernel) (pa_cons (pv 0) pa_nil)) pe_int))
      (pss_one (ps_ret (pe_lst (pa_cons (pe_op op_add (pe_op op_mod (pe_callTy call_int1 (by rfl) T.b_int (by decide +kernel) (pa_cons (pe_callB call_abs (by rfl) T.b_abs (by decide +kernel) (pa_cons (pv 0) pa_nil)) pa_nil)) pe_int) pe_int) (pa_cons (pv 1) (pa_cons pe_int pa_nil))))))), ?_⟩
    have fin : ∀ y : Int, tRet (tLst (tCons (tOp (rI0 fun i j => V.int (i + j)) (tOp (rI (fun _ j => 0 < j) fun i j => .int (i % j)) (tCB (fun xs H Q => (∃ i, xs = [V.int i] ∧ Q (V.int i) H) ∨ ∃ k, xs = [V.bl k] ∧ Q (V.int (if k = true then 1 else 0)) H)
        (tCons (tCB (fun xs H Q => ∃ i, xs = [V.int i] ∧ Q (.int (if i < 0 then -i else i)) H) (tCons (tVar 0) tNil)) tNil)) (tC (.int 2147483587))) (tC (.int 1))) (tCons (tVar 1) (tCons (tC (.int 0)) tNil)))) { nx := fun _ H' => Q .non H', rt := Q } [some (.int n), some (.int y)] H := by
      intro y
      refine ⟨_, rfl, _, rfl, Or.inl ⟨_, rfl, _, _, rfl, rfl, (by show (0 : Int) < 2147483587; decide), _, _, rfl, rfl, _, rfl, (by show 3 ≤ sizeLine; decide), ?_⟩⟩
      intro p hp
      refine k p _ hp (same_new hp) ⟨_, _, _, upd_same, ?_, ?_⟩
      · have := Int.emod_nonneg (if n < 0 then -n else n) (show (2147483587 : Int) ≠ 0 by decide)
        omega
      · have := Int.emod_lt_of_pos (if n < 0 then -n else n) (show (0 : Int) < 2147483587 by decide)
        omega
    refine ⟨_, rfl, _, _, rfl, rfl, _, rfl, ?_⟩
    refine ite2 (fun _ => iteT ?_) (fun _ => ?_)
    · exact ⟨_, rfl, _, rfl, fin _⟩
    · refine ⟨_, rfl, _, _, rfl, rfl, ⟨by decide, by decide, by decide⟩, _, _, rfl, rfl, _, rfl, ?_⟩
      refine ite2 (fun _ => ?_) (fun _ => ?_)
      · exact ⟨_, rfl, _, rfl, fin _⟩
      · exact fin _
theorem ok_law_number (T : Txt K mg A) : FnOk P w K mg base CX0 1 A.a_law_number A.d_law_number ["_law_numbers", "_law_k"] (spNumber K) := by
  have nd := sc_law_number.nd
  refine T.f_law_number.ok sc_law_number (fun vs H Q E h => ?_) (fun cdv A' outer s H vs Q E hr h => ?_)
  · obtain ⟨a, ns, k, rfl, _⟩ := h
    rfl
  · obtain ⟨a, ns, i, rfl, hS, hb, i0, i1, k⟩ := h
    refine ⟨_, (pss_cons (ps_if (pt_cmpR op_lt (pv 1) (pe_callB call_len_seq (by rfl) T.b_len (by decide +kernel) (pa_cons (pv 0) pa_nil)) (nomark _)) (pss_one (ps_ret (pe_ix ix_list (pv 0) (pv 1) (fun _ _ => rfl)))) pss_nil)
      (pss_cons (ps_set (i := 2) nd rfl (Or.inl rfl) (pe_op op_add (pe_op op_add (pe_op op_mul (pe_op op_mul pe_int (pv 1)) (pv 1)) (pe_op op_mul pe_int (pv 1))) pe_int))
      (pss_cons (ps_for PassesOwn.never rfl (pi_list (pe_slice sl_list (pv 0) po_none (po_some pe_int))) (pg_name (i := 3) nd rfl (Or.inl rfl)) (pss_one (ps_set (i := 2) nd rfl (Or.inl rfl) (pe_op op_mod (pe_callTy call_int1 (by rfl) T.b_int (by decide +kernel) (pa_cons (pe_op op_add (pe_op op_add (pe_op op_mul (pv 2) pe_int) (pe_op op_mulX (pv 3) (pv 3))) (pv 1)) pa_nil)) pe_int))))
      (pss_one (ps_ret (pv 2)))))), ?_⟩
    refine ⟨_, rfl, _, rfl, a, _, rfl, Or.inl hS, _, _, rfl, rfl, _, rfl, ?_⟩
    refine ite2 (fun hi => ?_) (fun _ => ?_)
    · have hi := of_decide_eq_true hi
      rw [List.length_map] at hi
      obtain ⟨j, rfl⟩ := Int.eq_ofNat_of_zero_le i0
      have hj : j < ns.length := by omega
      refine ⟨_, rfl, _, rfl, a, _, _, V.int ns[j], rfl, rfl, hS, ?_, ?_⟩
      · refine atI_nat (by simp [hj])
      · exact k _ H (Same.refl H)
    · refine ⟨_, rfl, _, _, rfl, rfl, Or.inl ⟨by decide, by decide⟩, _, rfl, _, _, rfl, rfl, Or.inl ⟨by omega, by omega⟩, _, rfl, _, _, rfl, rfl, Or.inl ⟨by decide, by decide⟩, _, _, rfl, rfl, _, _, rfl, rfl, ?_⟩
      refine ⟨_, rfl, _, rfl, a, _, rfl, hS, ?_⟩
      intro p hp
      have hp2 : (upd H p (.lst (cutV (ns.map V.int) none (some 5)))) p = some (.lst (cutV (ns.map V.int) none (some 5))) := upd_same
      refine ⟨p, rfl, ⟨_, SqL.of hp2⟩, for_list (K := K) (a := p) (xs := cutV (ns.map V.int) none (some 5)) (fun _ σ H2 => H2 = upd H p (.lst (cutV (ns.map V.int) none (some 5))) ∧
        ∃ (z : Int) (v : Option V), z < 2 ^ 60 ∧ -(2 ^ 60) < z ∧ σ = [some (.ref a), some (.int i), some (.int z), v]) ⟨rfl, _, none, ?_, ?_, rfl⟩ (fun _ _ H2 _ h => by rw [h.1]; exact SqL.of hp2) ?_ ?_⟩
      · show 7919 * i * i + 4099 * i + 17 < 2 ^ 60
        have e : 7919 * i * i ≤ 7919 * 1000 * 1000 := Int.mul_le_mul (Int.mul_le_mul_of_nonneg_left i1 (by decide)) i1 i0 (by decide)
        omega
      · show -(2 ^ 60) < 7919 * i * i + 4099 * i + 17
        have e : 0 ≤ 7919 * i * i := Int.mul_nonneg (Int.mul_nonneg (by decide) i0) i0
        omega
      · rintro j x σ H2 hx ⟨rfl, z, v, z0, z1, rfl⟩
        obtain ⟨n, rfl, hn⟩ : ∃ n, x = V.int n ∧ n ∈ ns := by
          have hm := List.mem_of_mem_drop (List.mem_of_mem_take (List.mem_of_getElem? hx))
          obtain ⟨n, h1, h2⟩ := List.mem_map.mp hm
          exact ⟨n, h2.symm, h1⟩
        have hbn := hb n hn
        refine ⟨_, rfl, _, _, rfl, rfl, Or.inl ⟨by omega, by omega⟩, _, rfl, _, rfl, _, _, rfl, rfl, (by unfold CMulX; omega), _, _, rfl, rfl, _, rfl, _, _, rfl, rfl, Or.inl ⟨_, rfl, ?_⟩⟩
        refine ⟨_, _, rfl, rfl, (by show (0 : Int) < 2147483587; decide), ?_⟩
        refine ⟨rfl, _, _, ?_, ?_, rfl⟩
        · have := Int.emod_lt_of_pos (z * 60013 + n * n + i) (show (0 : Int) < 2147483587 by decide)
          show (z * 60013 + n * n + i) % 2147483587 < 2 ^ 60
          omega
        · have := Int.emod_nonneg (z * 60013 + n * n + i) (show (2147483587 : Int) ≠ 0 by decide)
          show -(2 ^ 60) < (z * 60013 + n * n + i) % 2147483587
          omega
      · rintro σ H2 ⟨rfl, z, v, _, _, rfl⟩
        exact ⟨_, rfl, k _ _ (same_new hp)⟩
end
end K07
set_option Elab.async false
set_option linter.all false
set_option maxRecDepth 100000
set_option maxHeartbeats 4000000
namespace K07
open PySem PySem.Spec PyProof.Rows L2 Mo
/-! ### what the checks tell -/
def isIntV : V → Bool | .int _ => true | _ => false
def isMarkV : V → Bool | .int i => decide (0 ≤ i) | _ => false
def lets : List Nat := ("abcdefghijklmnopqrstuvwxyz" : Str).cps.toList
def sgns : List Nat := ("abcdefghijklmnopqrstuvwxyz0123456789" : Str).cps.toList
def fixedB (z : Str) : Bool := decide (z = "nothing") || decide (z = "yes")
def nameB (z : Str) : Bool := decide (0 < z.length) && decide (z.length ≤ 8) && !fixedB z && decide (z.cps.toList.headD 0 ∈ lets) && z.cps.toList.all (fun c => decide (c ∈ sgns))
def isNameV : V → Bool | .str z => nameB z | _ => false
def isOperV : V → Bool | .str z => fixedB z || nameB z | _ => false
def isValV : V → Bool | .non => true | .str z => decide (z = "yes") | .int i => decide (0 ≤ i) | _ => false
theorem inV_fixed (z : Str) : inV (.str z) [.str "nothing", .str "yes"] = fixedB z := by
  rw [show [V.str "nothing", V.str "yes"] = (["nothing", "yes"] : List Str).map V.str from rfl, inV_strs]
  unfold fixedB
  rw [Bool.eq_iff_iff]
  simp
/-- a check of a thing: a truth -/
def spTell (f : V → Bool) : Sp := fun vs H Q _ => ∃ (v : V) (n : Ty7), vs = [v] ∧ Th H v n ∧ ∀ H', Same H H' → Q (.bl (f v)) H'
section
variable {w : World} {K : PySem.W.Frag} {mg : Str → Option Value} {base : Heap} {A : Ads}
theorem ok_is_name (T : Txt K mg A) : FnOk P w K mg base CX0 1 A.a_is_name A.d_is_name ["value"] (spTell isNameV) := by
  have nd := sc_is_name.nd
  refine T.f_is_name.ok sc_is_name (fun vs H Q E h => ?_) (fun cdv A' outer s H vs Q E hr h => ?_)
  · obtain ⟨v, n, rfl, _⟩ := h
    rfl
  · obtain ⟨v, n, rfl, th, k⟩ := h
    refine ⟨_, (pss_cons (ps_if (PW.pt (pw_or (pt_not (pt_val (pe_callB call_isi (by rfl) T.b_isinstance (by decide +kernel) (pa_cons (pv 0) (pa_cons (pe_ty "str" T.b_str) pa_nil))))) (pw_or (pt_not (pt_chain op_lt op_le pe_int (pe_callB call_len_str (by rfl) T.b_len (by decide +kernel) (pa_cons (pv 0) pa_nil)) (pe_gI T.c_LONGEST))) (pw_or1 (pt_cmpR op_in_seq (pv 0) (pe_tup (pa_cons (pe_gS T.c_NOTHING) (pa_cons (pe_gS T.c_YES) pa_nil))) (by rfl)))))) (pss_one (ps_ret pe_bl)) pss_nil)
      (pss_one (ps_ret (pe_and (pe_cmpR op_in_sign (pe_ix ix_str (pv 0) pe_int (fun _ _ => rfl)) (pe_gS T.c_LETTERS) (by rfl)) (pe_one (pe_callB (cr_all rfl) (by rfl) T.b_all (by decide +kernel) (pa_cons (pe_lc (own := [("sign", 1)]) (g := gName 1) (tt := tYes) rfl nd (pi_str (pv 0)) (blkOk_by (N := nm_is_name) (sc := defScope st_is_name) (by decide +kernel)) (fun _ _ _ _ _ => (pg_name (i := 1) nd rfl (Or.inl rfl))) (fun _ _ _ _ _ => pts_nil) (fun _ _ _ _ _ => (pe_cmpR op_in_sign (pv 1) (pe_gS T.c_SIGNS) (by rfl)))) pa_nil)))))))
      , ?_⟩
    have q := k H (Same.refl H)
    refine ⟨_, rfl, v, _, _, _, _, rfl, .ty _, th.ty, kit7 n .str (by decide), _, rfl, ?_⟩
    cases th with
    | str z hz ha =>
      refine iteF ?_
      have hz2 := len5000 hz
      refine ⟨_, rfl, z, rfl, hz2, _, _, rfl, rfl, _, rfl, ?_⟩
      refine ite2 (fun h0 => ?_) (fun h0 => ?_)
      · have h0 := of_decide_eq_true h0
        refine ⟨_, _, rfl, rfl, _, rfl, ?_⟩
        refine ite2 (fun h1 => ?_) (fun h1 => ?_)
        · have e : nameB z = false := by
            unfold nameB
            have h2 : (8 : Int) < z.length := by simpa using h1
            have : ¬ z.length ≤ 8 := by omega
            simp [this]
          refine iteT ?_
          show Q (.bl false) H
          rw [show isNameV (V.str z) = nameB z from rfl, e] at q
          exact q
        · have h1 : z.length ≤ 8 := by
            have : decide ((z.length : Int) ≤ 8) = true := by simpa using h1
            have := of_decide_eq_true this
            omega
          refine ⟨_, rfl, (by show 2 ≤ sizeLine; decide), fun p hp => ⟨p, _, rfl, Or.inr (SqT.of upd_same), rfl, rfl, _, rfl, ?_⟩⟩
          have q2 := k _ (same_new (o := .tup [.str "nothing", .str "yes"]) hp)
          have fx : inV (.str z) [.str "nothing", .str "yes"] = fixedB z := inV_fixed z
          refine ite2 (fun h2 => ?_) (fun h2 => ?_)
          · have h2 : inV (.str z) [.str "nothing", .str "yes"] = true := h2
            have e : nameB z = false := by
              unfold nameB
              rw [← fx, h2]
              simp
            show Q (.bl false) _
            rw [show isNameV (V.str z) = nameB z from rfl, e] at q2
            exact q2
          · have h2 : ¬ inV (.str z) [.str "nothing", .str "yes"] = true := h2
            have h2 := Bool.eq_false_iff.mpr h2
            rw [fx] at h2
            have hh : ∃ c l, z.cps.toList = c :: l := by
              cases e : z.cps.toList with
              | nil =>
                have : z.length = 0 := by
                  show z.cps.size = 0
                  rw [← Array.length_toList, e]
                  rfl
                omega
              | cons c l => exact ⟨c, l, rfl⟩
            obtain ⟨c, l, ecl⟩ := hh
            refine ⟨_, rfl, z, _, c, rfl, rfl, hz2, atI_nat (j := 0) (by rw [ecl]; rfl), c, _, rfl, rfl, _, rfl, ?_⟩
            have e0 : nameB z = (decide (c ∈ lets) && z.cps.toList.all (fun c => decide (c ∈ sgns))) := by
              unfold nameB
              have hp : 0 < z.length := by omega
              rw [h2, decide_eq_true hp, decide_eq_true h1, ecl]
              simp
            rw [show isNameV (V.str z) = nameB z from rfl, e0] at k q2
            refine ite2 (fun h3 => ?_) (fun h3 => ?_)
            · have h3 : decide (c ∈ lets) = true := h3
              refine ⟨_, rfl, z, rfl, fun D hD => lc_it walk_str (fun i H2 => i ≤ z.cps.size ∧ Same H H2 ∧ H2 D = some (.lst ((z.cps.toList.take i).map fun c => V.bl (decide (c ∈ sgns))))) ⟨Nat.zero_le _, ?_, upd_same⟩ (fun _ _ _ _ => trivial) ?_ ?_⟩
              · exact (same_new hp).trans (same_new hD)
              · rintro i x H1 H2 hi ⟨_, sm, hd⟩ ⟨rfl, c2, hc, rfl⟩
                have hlen : ((z.cps.toList.take i).map fun c => V.bl (decide (c ∈ sgns))).length < sizeLine := by
                  rw [List.length_map, List.length_take]
                  exact lt5000 (Nat.lt_of_le_of_lt (Nat.min_le_left _ _) (Nat.lt_of_lt_of_le hi hz))
                refine ⟨rfl, _, rfl, c2, _, rfl, rfl, _, hd, hlen, hi, ?_, ?_⟩
                · intro b o e
                  have hb : b ≠ D := ne_of_none e ((same_new hp).free hD)
                  rw [upd_ne hb]
                  exact sm b o e
                · rw [upd_same]
                  have hc2 : z.cps.toList[i]? = some c2 := by simpa using hc
                  rw [List.take_add_one, hc2, List.map_append]
                  rfl
              · rintro H2 ⟨_, sm, hd⟩
                refine ⟨D, z.cps.toList.map fun c => decide (c ∈ sgns), rfl, SqL.of ?_, ?_⟩
                · rw [hd]
                  congr 2
                  rw [List.map_map, List.take_of_length_le (by simp)]
                  rfl
                · have := k H2 sm
                  rw [h3, Bool.true_and] at this
                  rw [List.all_map]
                  exact this
            · have h3 : ¬ decide (c ∈ lets) = true := h3
              have h3 := Bool.eq_false_iff.mpr h3
              show Q (.bl false) _
              rw [h3, Bool.false_and] at q2
              exact q2
      · have e : nameB z = false := by
          unfold nameB
          have : ¬ 0 < z.length := by simpa using h0
          simp [this]
        refine ⟨_, rfl, iteT (iteT ?_)⟩
        show Q (.bl false) H
        rw [show isNameV (V.str z) = nameB z from rfl, e] at q
        exact q
    | _ => exact iteT (iteT q)
theorem ok_is_operand (T : Txt K mg A) : FnOk P w K mg base CX0 2 A.a_is_operand A.d_is_operand ["value"] (spTell isOperV) := by
  have nd := sc_is_operand.nd
  refine T.f_is_operand.ok sc_is_operand (fun vs H Q E h => ?_) (fun cdv A' outer s H vs Q E hr h => ?_)
  · obtain ⟨v, n, rfl, _⟩ := h
    rfl
  · obtain ⟨v, n, rfl, th, k⟩ := h
    refine ⟨_, (pss_one (ps_ret (pe_and (pe_callB call_isi (by rfl) T.b_isinstance (by decide +kernel) (pa_cons (pv 0) (pa_cons (pe_ty "str" T.b_str) pa_nil))) (pe_one (pe_or (pe_cmpR op_in_seq (pv 0) (pe_tup (pa_cons (pe_gS T.c_NOTHING) (pa_cons (pe_gS T.c_YES) pa_nil))) (by rfl)) (pe_one (pe_call (ok_is_name T) (hr.mono (by decide)) (by rfl) T.m_is_name T.k_is_name T.v_is_name .nil pass0 (pa_cons (pv 0) pa_nil)))))))), ?_⟩
    have q := k H (Same.refl H)
    refine ⟨_, rfl, v, _, _, _, _, rfl, .ty _, th.ty, kit7 n .str (by decide), _, rfl, ?_⟩
    cases th with
    | str z hz ha =>
      refine iteT ?_
      refine ⟨_, rfl, (by show 2 ≤ sizeLine; decide), fun p hp => ⟨p, _, rfl, Or.inr (SqT.of upd_same), rfl, rfl, _, rfl, ?_⟩⟩
      have sm := same_new (o := .tup [.str "nothing", .str "yes"]) hp
      have fx : inV (.str z) [.str "nothing", .str "yes"] = fixedB z := inV_fixed z
      refine ite2 (fun h2 => ?_) (fun h2 => ?_)
      · have h2 : inV (.str z) [.str "nothing", .str "yes"] = true := h2
        have q2 := k _ sm
        rw [show isOperV (V.str z) = (fixedB z || nameB z) from rfl, ← fx, h2, Bool.true_or] at q2
        exact q2
      · have h2 : ¬ inV (.str z) [.str "nothing", .str "yes"] = true := h2
        have h2 := Bool.eq_false_iff.mpr h2
        refine ⟨_, rfl, .str z, .str, rfl, .str z hz ha, fun H' e => ?_⟩
        have q2 := k _ (sm.trans e)
        rw [show isOperV (V.str z) = (fixedB z || nameB z) from rfl, ← fx, h2, Bool.false_or] at q2
        exact q2
    | _ => exact iteF q
def spCk (f : V → Bool) : Sp := fun vs H Q _ => ∃ (v : V) (n : Ty7), vs = [v] ∧ Th H v n ∧ f v = true ∧ ∀ H', Same H H' → Q .non H'
theorem ok_check_name (T : Txt K mg A) : FnOk P w K mg base CX0 2 A.a_check_name A.d_check_name ["value"] (spCk isNameV) := by
  have nd := sc_check_name.nd
  refine T.f_check_name.ok sc_check_name (fun vs H Q E h => ?_) (fun cdv A' outer s H vs Q E hr h => ?_)
  · obtain ⟨v, n, rfl, _⟩ := h
    rfl
  · obtain ⟨v, n, rfl, th, hf, k⟩ := h
    refine ⟨_, (pss_one (ps_if (pt_not (pt_val (pe_call (ok_is_name T) (hr.mono (by decide)) (by rfl) T.m_is_name T.k_is_name T.v_is_name .nil pass0 (pa_cons (pv 0) pa_nil)))) (pss_one ps_never) pss_nil)), ?_⟩
    refine ⟨_, rfl, v, n, rfl, th, fun H1 s1 => ⟨_, rfl, ?_⟩⟩
    rw [hf]
    exact iteF (k H1 s1)
theorem ok_check_operand (T : Txt K mg A) : FnOk P w K mg base CX0 3 A.a_check_operand A.d_check_operand ["value"] (spCk isOperV) := by
  have nd := sc_check_operand.nd
  refine T.f_check_operand.ok sc_check_operand (fun vs H Q E h => ?_) (fun cdv A' outer s H vs Q E hr h => ?_)
  · obtain ⟨v, n, rfl, _⟩ := h
    rfl
  · obtain ⟨v, n, rfl, th, hf, k⟩ := h
    refine ⟨_, (pss_one (ps_if (pt_not (pt_val (pe_call (ok_is_operand T) (hr.mono (by decide)) (by rfl) T.m_is_operand T.k_is_operand T.v_is_operand .nil pass0 (pa_cons (pv 0) pa_nil)))) (pss_one ps_never) pss_nil)), ?_⟩
    refine ⟨_, rfl, v, n, rfl, th, fun H1 s1 => ⟨_, rfl, ?_⟩⟩
    rw [hf]
    exact iteF (k H1 s1)
end
end K07
set_option Elab.async false
set_option linter.all false
set_option maxRecDepth 100000
set_option maxHeartbeats 4000000
namespace K07
open PySem PySem.Spec PyProof.Rows L2 Mo
/-! ### what stays: tuples, and objects that are made -/
structure KpT (H H' : Hp) : Prop where
  t : ∀ x xs, H x = some (.tup xs) → H' x = some (.tup xs)
  f : ∀ x o xs, H x = some (.frz o (.tup xs)) → H' x = some (.frz o (.tup xs))
  i : ∀ x C dx fs, H x = some (.ins C dx fs) → fs ≠ [] → H' x = some (.ins C dx fs)
theorem KpT.of_same {H H' : Hp} (e : Same H H') : KpT H H' := ⟨fun _ _ => e _ _, fun _ _ _ => e _ _, fun _ _ _ _ h _ => e _ _ h⟩
theorem KpT.trans {H H1 H2 : Hp} (a : KpT H H1) (b : KpT H1 H2) : KpT H H2 := ⟨fun x xs h => b.t _ _ (a.t _ _ h), fun x o xs h => b.f _ _ _ (a.f _ _ _ h), fun x C dx fs h n => b.i _ _ _ _ (a.i _ _ _ _ h n) n⟩
theorem KpT.lst {H H' : Hp} {a : Addr} {xs : List V} (h : H a = some (.lst xs)) (k : KeepBut a H H') : KpT H H' :=
  ⟨fun x xs e => k _ _ (ne_of e h (by intro z; cases z)) e, fun x o xs e => k _ _ (ne_of e h (by intro z; cases z)) e, fun x C dx fs e _ => k _ _ (ne_of e h (by intro z; cases z)) e⟩
theorem KpT.new {H H' : Hp} {a C dx : Addr} (h : H a = some (.ins C dx [])) (k : KeepBut a H H') : KpT H H' :=
  ⟨fun x xs e => k _ _ (ne_of e h (by intro z; cases z)) e, fun x o xs e => k _ _ (ne_of e h (by intro z; cases z)) e, fun x C dx fs e n => k _ _ (ne_of e h (by intro z; cases z; exact n rfl)) e⟩
theorem KpT.free {H H' : Hp} {a : Addr} (h : H a = none) (k : KeepBut a H H') : KpT H H' := KpT.of_same fun b o e => k b o (ne_of_none e h) e
theorem KpT.sq {K : PySem.W.Frag} {H H' : Hp} {p : Addr} {xs : List V} (k : KpT H H') (h : SqT K H p xs) : SqT K H' p xs := by
  rcases h with (h | ⟨o, h⟩) | h
  · exact .inl (.inl (k.t _ _ h))
  · exact .inl (.inr ⟨o, k.f _ _ _ h⟩)
  · exact .inr h
/-! ### statements -/
def RowsOk (am lv : Nat) (rows : List Str) : Prop := 1 ≤ am ∧ am ≤ 40 ∧ 1 ≤ lv ∧ lv ≤ 5 ∧ 1 ≤ rows.length ∧ rows.length ≤ 2 * am ∧ ∀ r ∈ rows, r.length ≤ 200 + 2 * lv ∧ AlnT r
/-- what is told of a statement: the number of its kind, amount, level, rows -/
structure Sd where
  k : Nat
  am : Nat
  lv : Nat
  rows : List Str
/-- a statement at p, its bodies bs and os -/
def StAt (K : PySem.W.Frag) (A : Ads) (H : Hp) (p : Addr) (d : Sd) (bs os : List Addr) : Prop := ∃ (C dx : Addr) (fs : List (Str × V)) (ps pr pb po : Addr), A.fam[d.k]? = some C ∧ H p = some (.ins C dx fs) ∧ fs.lookup ("size" : Str) = some (.ref ps) ∧ H ps = some (.tup [.int d.am, .int d.lv]) ∧
  fs.lookup ("rows" : Str) = some (.ref pr) ∧ H pr = some (.tup (d.rows.map V.str)) ∧ fs.lookup ("body" : Str) = some (.ref pb) ∧ SqT K H pb (bs.map V.ref) ∧ fs.lookup ("otherwise" : Str) = some (.ref po) ∧ SqT K H po (os.map V.ref) ∧ fs.lookup ("WORD" : Str) = none ∧ RowsOk d.am d.lv d.rows
theorem StAt.mv {K : PySem.W.Frag} {A : Ads} {H H' : Hp} {p : Addr} {d : Sd} {bs os : List Addr} (h : StAt K A H p d bs os) (k : KpT H H') : StAt K A H' p d bs os := by
  obtain ⟨C, dx, fs, ps, pr, pb, po, h1, h2, h3, h4, h5, h6, h7, h8, h9, h10, h11, h12⟩ := h
  have n : fs ≠ [] := by
    intro z
    subst z
    cases h3
  exact ⟨C, dx, fs, ps, pr, pb, po, h1, k.i _ _ _ _ h2 n, h3, k.t _ _ h4, h5, k.t _ _ h6, h7, k.sq h8, h9, k.sq h10, h11, h12⟩
theorem StAt.ok {K : PySem.W.Frag} {A : Ads} {H : Hp} {p : Addr} {d : Sd} {bs os : List Addr} (h : StAt K A H p d bs os) : RowsOk d.am d.lv d.rows := by
  obtain ⟨C, dx, fs, ps, pr, pb, po, h1, h2, h3, h4, h5, h6, h7, h8, h9, h10, h11, h12⟩ := h
  exact h12
/-- the further fields of a statement -/
structure Fd where
  cell : Option Str
  into : Option Str
  ment : List Str
  more : List (Str × Str)
def oV : Option Str → V
  | none => .non
  | some z => .str z
def StF (K : PySem.W.Frag) (H : Hp) (p : Addr) (f : Fd) : Prop := ∃ (C dx : Addr) (fs : List (Str × V)) (pm : Addr), H p = some (.ins C dx fs) ∧ fs ≠ [] ∧ fs.lookup ("cell" : Str) = some (oV f.cell) ∧ fs.lookup ("into" : Str) = some (oV f.into) ∧ fs.lookup ("mentioned" : Str) = some (.ref pm) ∧ SqT K H pm (f.ment.map V.str) ∧ ∀ q ∈ f.more, fs.lookup q.1 = some (.str q.2)
theorem StF.mv {K : PySem.W.Frag} {H H' : Hp} {p : Addr} {f : Fd} (h : StF K H p f) (k : KpT H H') : StF K H' p f := by
  obtain ⟨C, dx, fs, pm, h1, n, h2, h3, h4, h5, h6⟩ := h
  exact ⟨C, dx, fs, pm, k.i _ _ _ _ h1 n, n, h2, h3, h4, k.sq h5, h6⟩
theorem all0 {α : Type} {p : α → Prop} : ∀ q ∈ ([] : List α), p q := fun _ h => nomatch h
theorem all1 {α : Type} {p : α → Prop} {a : α} (h : p a) : ∀ q ∈ [a], p q := fun q hq => by rw [List.mem_singleton.mp hq]; exact h
theorem all2 {α : Type} {p : α → Prop} {a b : α} (h : p a) (g : p b) : ∀ q ∈ [a, b], p q := fun q hq => by
  rcases List.mem_cons.mp hq with e | hq
  · rw [e]; exact h
  · exact all1 g q hq
def fdO : Nat → List Str → Fd
  | 0, [_, c, i] => ⟨some c, some i, [i], []⟩
  | 1, [_, c, o] => ⟨some c, none, [o], [("operand", o)]⟩
  | 2, [_, c, o, i] => ⟨some c, some i, [o, i], [("operand", o)]⟩
  | 3, [_, c, o, n, i] => ⟨some c, some i, [o, n, i], [("old", o), ("new", n)]⟩
  | 4, [_, i, o] => ⟨none, some i, [i, o], [("operand", o)]⟩
  | 6, [_, o] => ⟨none, none, [o], [("operand", o)]⟩
  | _, _ => ⟨none, none, [], []⟩
/-- parts: some statements -/
def PartsAt (K : PySem.W.Frag) (A : Ads) (H : Hp) (qs : List (Addr × Sd)) : Prop := ∀ q ∈ qs, ∃ bs os, StAt K A H q.1 q.2 bs os
theorem PartsAt.mv {K : PySem.W.Frag} {A : Ads} {H H' : Hp} {qs : List (Addr × Sd)} (h : PartsAt K A H qs) (k : KpT H H') : PartsAt K A H' qs := fun q hq => let ⟨bs, os, h⟩ := h q hq; ⟨bs, os, h.mv k⟩
def refsOf (qs : List (Addr × Sd)) : List V := qs.map fun q => V.ref q.1
def flatR (qs : List (Addr × Sd)) : List Str := qs.flatMap fun q => q.2.rows
def ind (rs : List Str) : List Str := rs.map fun r => "  " ++ r
def sumA (qs : List (Addr × Sd)) : Nat := (qs.map fun q => q.2.am).sum
def maxL (qs : List (Addr × Sd)) : Nat := (qs.map fun q => q.2.lv).foldr max 0
/-- the rows of a statement by its first line and its bodies -/
def rowsOf (line : Str) (bs os : List (Addr × Sd)) : List Str := line :: (ind (flatR bs) ++ (if os = [] then [] else ("else" : Str) :: ind (flatR os)))
theorem flatR_len {K : PySem.W.Frag} {A : Ads} {H : Hp} : ∀ {qs : List (Addr × Sd)}, PartsAt K A H qs → (flatR qs).length ≤ 2 * sumA qs
  | [], _ => Nat.le_refl _
  | q :: qs, h => by
    have h1 := flatR_len (qs := qs) fun x hx => h x (List.mem_cons_of_mem _ hx)
    obtain ⟨bs, os, hq⟩ := h q List.mem_cons_self
    obtain ⟨_, _, _, _, _, h2, _⟩ := hq.ok
    have e1 : flatR (q :: qs) = q.2.rows ++ flatR qs := rfl
    have e2 : sumA (q :: qs) = q.2.am + sumA qs := by simp [sumA]
    rw [e1, e2, List.length_append]
    omega
theorem flatR_row {K : PySem.W.Frag} {A : Ads} {H : Hp} : ∀ {qs : List (Addr × Sd)}, PartsAt K A H qs → ∀ r ∈ flatR qs, r.length ≤ 200 + 2 * maxL qs ∧ AlnT r
  | [], _ => fun r h => (List.not_mem_nil h).elim
  | q :: qs, h => by
    intro r hr
    have h1 := flatR_row (qs := qs) fun x hx => h x (List.mem_cons_of_mem _ hx)
    obtain ⟨bs, os, hq⟩ := h q List.mem_cons_self
    obtain ⟨_, _, _, _, _, _, h2⟩ := hq.ok
    have e2 : maxL (q :: qs) = max q.2.lv (maxL qs) := rfl
    rw [e2]
    rcases List.mem_append.mp (show r ∈ q.2.rows ++ flatR qs from hr) with hr | hr
    · have := h2 r hr
      exact ⟨by omega, this.2⟩
    · have := h1 r hr
      exact ⟨by omega, this.2⟩
theorem len_sumA {K : PySem.W.Frag} {A : Ads} {H : Hp} : ∀ {qs : List (Addr × Sd)}, PartsAt K A H qs → qs.length ≤ sumA qs
  | [], _ => Nat.le_refl _
  | q :: qs, h => by
    have h1 := len_sumA (qs := qs) fun x hx => h x (List.mem_cons_of_mem _ hx)
    obtain ⟨bs, os, hq⟩ := h q List.mem_cons_self
    obtain ⟨h2, _⟩ := hq.ok
    have e2 : sumA (q :: qs) = q.2.am + sumA qs := by simp [sumA]
    rw [e2, List.length_cons]
    omega
theorem sumA_app (a b : List (Addr × Sd)) : sumA (a ++ b) = sumA a + sumA b := by simp [sumA]
theorem maxL_app : ∀ a b : List (Addr × Sd), maxL (a ++ b) = max (maxL a) (maxL b)
  | [], b => by simp [maxL]
  | q :: a, b => by
    have := maxL_app a b
    have e1 : maxL (q :: a ++ b) = max q.2.lv (maxL (a ++ b)) := rfl
    have e2 : maxL (q :: a) = max q.2.lv (maxL a) := rfl
    rw [e1, e2, this]
    omega
theorem maxL_mem : ∀ qs : List (Addr × Sd), (∀ q ∈ qs, q.2.lv ≤ maxL qs) ∧ (qs ≠ [] → ∃ q ∈ qs, q.2.lv = maxL qs)
  | [] => ⟨fun q h => (List.not_mem_nil h).elim, fun n => absurd rfl n⟩
  | q :: qs => by
    obtain ⟨h1, h2⟩ := maxL_mem qs
    have e : maxL (q :: qs) = max q.2.lv (maxL qs) := rfl
    constructor
    · intro x hx
      rw [e]
      rcases List.mem_cons.mp hx with rfl | hx
      · omega
      · have := h1 x hx
        omega
    · intro _
      rw [e]
      by_cases hq : qs = []
      · subst hq
        exact ⟨q, List.mem_cons_self, by simp [maxL]⟩
      · obtain ⟨x, hx, ex⟩ := h2 hq
        by_cases hle : q.2.lv ≤ maxL qs
        · exact ⟨x, List.mem_cons_of_mem _ hx, by omega⟩
        · exact ⟨q, List.mem_cons_self, by omega⟩
theorem aln_app {x y : Str} (hx : AlnT x) (hy : AlnT y) : AlnT (x ++ y) := by
  intro c hc
  have hc : c ∈ (x ++ y).cps.toList := hc
  rw [cps_app] at hc
  exact (List.mem_append.mp hc).elim (hx c) (hy c)
theorem aln_by {x : Str} (h : x.cps.toList.all Aln = true) : AlnT x := fun c hc => List.all_eq_true.mp h c hc
theorem AlnT.asc {x : Str} (h : AlnT x) : Asc x := fun c hc => aln_lt (h c hc)
theorem asc_sp {r : Str} (h : AlnT r) : AlnT ("  " ++ r) := aln_app (aln_by (by decide +kernel)) h
theorem emp_app (x : Str) : Str.empty ++ x = x := by
  have : (Str.empty ++ x).cps = x.cps := by
    apply Array.ext'
    rw [cps_app]
    rfl
  cases x
  exact congrArg Str.mk this
theorem rowsOf_ok {K : PySem.W.Frag} {A : Ads} {H : Hp} {line : Str} {bs os : List (Addr × Sd)} (hl : line.length ≤ 200) (ha : AlnT line) (hb : PartsAt K A H bs) (ho : PartsAt K A H os) (h40 : sumA bs + sumA os ≤ 39) (h5 : maxL (bs ++ os) ≤ 4) :
    RowsOk (1 + (sumA bs + sumA os)) (1 + maxL (bs ++ os)) (rowsOf line bs os) := by
  have b1 := flatR_len hb
  have o1 := flatR_len ho
  have b2 := flatR_row hb
  have o2 := flatR_row ho
  rw [maxL_app] at h5 ⊢
  have ip : ∀ (rs : List Str) (n : Nat), (∀ r ∈ rs, r.length ≤ n ∧ AlnT r) → ∀ r ∈ ind rs, r.length ≤ n + 2 ∧ AlnT r := by
    intro rs n h r hr
    obtain ⟨x, hx, rfl⟩ := List.mem_map.mp hr
    refine ⟨?_, asc_sp (h x hx).2⟩
    rw [app_length]
    have := (h x hx).1
    have e : ("  " : Str).length = 2 := rfl
    omega
  refine ⟨by omega, by omega, by omega, by omega, ?_, ?_, ?_⟩
  · unfold rowsOf
    rw [List.length_cons]
    omega
  · unfold rowsOf ind
    by_cases e : os = []
    · rw [if_pos e, List.length_cons, List.length_append, List.length_map]
      simp
      omega
    · rw [if_neg e, List.length_cons, List.length_append, List.length_map, List.length_cons, List.length_map]
      have : 1 ≤ os.length := by
        cases os with
        | nil => exact absurd rfl e
        | cons a l => simp
      have := len_sumA ho
      omega
  · intro r hr
    rcases List.mem_cons.mp (show r ∈ line :: _ from hr) with rfl | hr
    · exact ⟨by omega, ha⟩
    · rcases List.mem_append.mp hr with hr | hr
      · have := ip _ _ b2 r hr
        exact ⟨by omega, this.2⟩
      · by_cases e : os = []
        · rw [if_pos e] at hr
          exact (List.not_mem_nil hr).elim
        · rw [if_neg e] at hr
          rcases List.mem_cons.mp hr with rfl | hr
          · refine ⟨?_, aln_by (by decide +kernel)⟩
            show 4 ≤ _
            omega
          · have := ip _ _ o2 r hr
            exact ⟨by omega, this.2⟩
section
variable {w : World} {K : PySem.W.Frag} {mg : Str → Option Value} {base : Heap} {A : Ads}
def spGet (K : PySem.W.Frag) (A : Ads) (f : Sd → Nat) : Sp := fun vs H Q _ => ∃ p d bs os, vs = [.ref p] ∧ StAt K A H p d bs os ∧ Q (.int (f d : Nat)) H
theorem ok_Statement_amount (T : Txt K mg A) : FnOk P w K mg base CX0 1 A.a_Statement_amount A.d_Statement_amount ["self"] (spGet K A Sd.am) := by
  have nd := sc_Statement_amount.nd
  refine T.f_Statement_amount.ok sc_Statement_amount (fun vs H Q E h => ?_) (fun cdv A' outer s H vs Q E hr h => ?_)
  · obtain ⟨p, d, bs, os, rfl, _⟩ := h
    rfl
  · obtain ⟨p, d, bs, os, rfl, ⟨C, dx, fs, ps, pr, pb, po, h1, h2, h3, h4, h5, h6, h7, h8, h9, h10, h11, h12⟩, k⟩ := h
    have fc := T.fam C (List.mem_of_getElem? h1)
    refine ⟨_, (pss_one (ps_ret (pe_ix ix_tup (pe_fld (pv 0) rfl) pe_int (fun _ _ => rfl)))), ?_⟩
    exact ⟨_, rfl, p, C, dx, fs, _, rfl, h2, fc.cl, fc.na _ (by decide +kernel), h3, ps, _, _, _, rfl, rfl, SqT.of h4, atI_nat (j := 0) rfl, k⟩
theorem ok_Statement_level (T : Txt K mg A) : FnOk P w K mg base CX0 1 A.a_Statement_level A.d_Statement_level ["self"] (spGet K A Sd.lv) := by
  have nd := sc_Statement_level.nd
  refine T.f_Statement_level.ok sc_Statement_level (fun vs H Q E h => ?_) (fun cdv A' outer s H vs Q E hr h => ?_)
  · obtain ⟨p, d, bs, os, rfl, _⟩ := h
    rfl
  · obtain ⟨p, d, bs, os, rfl, ⟨C, dx, fs, ps, pr, pb, po, h1, h2, h3, h4, h5, h6, h7, h8, h9, h10, h11, h12⟩, k⟩ := h
    have fc := T.fam C (List.mem_of_getElem? h1)
    refine ⟨_, (pss_one (ps_ret (pe_ix ix_tup (pe_fld (pv 0) rfl) pe_int (fun _ _ => rfl)))), ?_⟩
    exact ⟨_, rfl, p, C, dx, fs, _, rfl, h2, fc.cl, fc.na _ (by decide +kernel), h3, ps, _, _, _, rfl, rfl, SqT.of h4, atI_nat (j := 1) rfl, k⟩
def spIndent (K : PySem.W.Frag) (A : Ads) : Sp := fun vs H Q _ => ∃ (pb : Addr) (qs : List (Addr × Sd)), vs = [.ref pb] ∧ SqT K H pb (refsOf qs) ∧ PartsAt K A H qs ∧ sumA qs ≤ 40 ∧ maxL qs ≤ 5 ∧
  ∀ (l : Addr) (H' : Hp), H l = none → Same H H' → H' l = some (.lst ((ind (flatR qs)).map V.str)) → Q (.ref l) H'
theorem ok_indented (T : Txt K mg A) : FnOk P w K mg base CX0 1 A.a_indented A.d_indented ["body"] (spIndent K A) := by
  have nd := sc_indented.nd
  refine T.f_indented.ok sc_indented (fun vs H Q E h => ?_) (fun cdv A' outer s H vs Q E hr h => ?_)
  · obtain ⟨p, qs, rfl, _⟩ := h
    rfl
  · obtain ⟨pb, qs, rfl, hb, hp, h40, h5, k⟩ := h
    have flen := flatR_len hp
    have frow := flatR_row hp
    have same_sq : ∀ {H2 : Hp}, Same H H2 → SqT K H2 pb (refsOf qs) := fun e => (KpT.of_same e).sq hb
    refine ⟨_, (pss_one (ps_ret (pe_lc2 (own := [("part", 1), ("row", 2)]) (vs1 := [2]) (g := gName 1) (g1 := gName 2) (tt := tYes) (tt1 := tYes) rfl nd (pi_tup (pv 0)) (blkOk_by (N := nm_indented) (sc := defScope st_indented) (by decide +kernel)) (by decide) (fun _ _ _ _ _ => (pg_name (i := 1) nd rfl (Or.inl rfl))) (fun _ _ _ _ _ => pts_nil) (fun _ _ _ _ _ => (show PI _ _ _ (iTup K _) from pi_tup (show PE _ _ (tFld K _ _) from pe_fld (pv 1) rfl))) (fun _ _ _ _ _ => (pg_name (i := 2) nd rfl (Or.inl rfl))) (fun _ _ _ _ _ => pts_nil) (fun _ _ _ _ _ => (pe_fs (.cons pe_str (.cons (pe_fmt (pv 2)) .nil))))))), ?_⟩
    refine ⟨_, rfl, pb, rfl, ⟨_, hb⟩, fun D hD => out_it (walk_tup (K := K) (a := pb) (xs := refsOf qs)) (fun i H2 => i ≤ qs.length ∧ Same H H2 ∧ H2 D = some (.lst ((ind (flatR (qs.take i))).map V.str))) ⟨Nat.zero_le _, same_new hD, upd_same⟩ (fun i H2 _ h => same_sq h.2.1) ?_ ?_⟩
    · rintro i x H1 H2 hi ⟨hle, sm, hdd⟩ ⟨rfl, hx⟩
      have hx : (qs.map fun q => V.ref q.1)[i]? = some x := hx
      rw [List.getElem?_map] at hx
      obtain ⟨q, hq, rfl⟩ := Option.map_eq_some_iff.mp hx
      have hil : i < qs.length := (List.getElem?_eq_some_iff.mp hq).1
      obtain ⟨bs, os, st⟩ := hp q (List.mem_of_getElem? hq)
      have ro := st.ok
      obtain ⟨C, dx, fs, ps, pr, pb2, po, h1, h2, h3, h4, h5', h6, h7, h8, h9, h10, h11, h12⟩ := st
      have fc := T.fam C (List.mem_of_getElem? h1)
      have tk : flatR (qs.take (i + 1)) = flatR (qs.take i) ++ q.2.rows := by
        rw [List.take_add_one, hq]
        simp [flatR]
      have tkl : (flatR (qs.take i)).length ≤ (flatR qs).length := by
        have e : flatR qs = flatR (qs.take i) ++ flatR (qs.drop i) := by
          unfold flatR
          rw [← List.flatMap_append, List.take_append_drop]
        rw [e, List.length_append]
        omega
      refine ⟨rfl, _, rfl, q.1, C, dx, fs, _, rfl, sm _ _ h2, fc.cl, fc.na _ (by decide +kernel), h5', pr, rfl, ⟨_, SqT.of (sm _ _ h6)⟩, ?_⟩
      refine in_it (walk_tup (K := K) (a := pr) (xs := q.2.rows.map V.str)) (g := gName 2) (tt := tYes) (vs := [2]) (D := D) (fun j H3 => Same H H3 ∧ H3 D = some (.lst ((ind (flatR (qs.take i) ++ q.2.rows.take j)).map V.str))) ⟨sm, ?_⟩ (fun j H3 _ h => SqT.of (h.1 _ _ h6)) ?_ ?_
      · rw [hdd]
        simp
      · rintro j y H3 H4 hj ⟨sm3, hd3⟩ ⟨rfl, hy⟩
        rw [List.getElem?_map] at hy
        obtain ⟨r, hr', rfl⟩ := Option.map_eq_some_iff.mp hy
        have rl := (ro.2.2.2.2.2.2 r (List.mem_of_getElem? hr')).1
        have lv5 := ro.2.2.2.1
        have rl2 : r.length ≤ sizeLine := len5000 (by omega)
        have e2 : (Str.empty ++ ("  " : Str) ++ r) = "  " ++ r := by rw [emp_app]
        refine ⟨rfl, "  ", rfl, by decide, _, rfl, Or.inl ⟨r, rfl, rl2, r, rfl, ?_, _, hd3, ?_, ?_, ?_⟩⟩
        · rw [e2, app_length]
          show 2 + r.length ≤ sizeLine
          exact len5000 (by omega)
        · rw [List.length_map]
          unfold ind
          rw [List.length_map, List.length_append, List.length_take]
          have : q.2.rows.length ≤ 80 := by
            have := ro.2.2.2.2.2.1
            have := ro.2.1
            omega
          exact lt5000 (by omega)
        · intro b o e
          rw [upd_ne (ne_of_none e hD)]
          exact sm3 _ _ e
        · rw [upd_same, e2, List.take_add_one, hr']
          simp [ind]
      · rintro H3 ⟨sm3, hd3⟩
        refine ⟨hil, sm3, ?_⟩
        rw [hd3, tk]
        simp
    · rintro H2 ⟨_, sm, hdd⟩
      refine k D H2 hD sm ?_
      rw [hdd, List.take_of_length_le (by simp [refsOf])]
end
end K07
set_option Elab.async false
set_option linter.all false
set_option maxRecDepth 100000
set_option maxHeartbeats 4000000
namespace K07
open PySem PySem.Spec PyProof.Rows L2 Mo
theorem catX_ok {K : PySem.W.Frag} {H : Hp} {a b : Addr} {xs ys : List V} {Q : VK} (ha : SqT K H a xs) (hb : SqT K H b ys) (hz : xs.length + ys.length ≤ sizeLine) (q : ∀ p H', Same H H' → SqT K H' p (xs ++ ys) → Q (.ref p) H') : rCatX K (.ref a) (.ref b) H Q := by
  refine ⟨a, b, xs, ys, rfl, rfl, ha, hb, hz, fun e => ?_, fun e => ?_, fun p ob hd hp => ?_⟩
  · subst e
    exact q b H (Same.refl H) hb
  · subst e
    refine q a H (Same.refl H) ?_
    rw [List.append_nil]
    exact ha
  · exact q p _ (same_new hp) (.inl (.inr ⟨ob, upd_same⟩))
theorem refs_app (a b : List (Addr × Sd)) : refsOf a ++ refsOf b = refsOf (a ++ b) := by simp [refsOf]
theorem PartsAt.app {K : PySem.W.Frag} {A : Ads} {H : Hp} {a b : List (Addr × Sd)} (ha : PartsAt K A H a) (hb : PartsAt K A H b) : PartsAt K A H (a ++ b) := fun q hq => (List.mem_append.mp hq).elim (ha q) (hb q)
section
variable {w : World} {K : PySem.W.Frag} {mg : Str → Option Value} {base : Heap} {A : Ads}
/-- a comprehension over parts that tells a number of each -/
theorem nums_lc {H : Hp} {pi : Addr} {qs : List (Addr × Sd)} {f : Sd → Nat} {vs : List Nat} {σ : L2.St} {D : Addr} {Qd : Hp → Prop} {te : TE} (hs : SqT K H pi (refsOf qs)) (hD : H D = none) (hlen : qs.length ≤ 100) {i8 : Nat}
    (ht : ∀ (j : Nat) (q : Addr × Sd) (H2 : Hp) (R : VK), Same H H2 → qs[j]? = some q → R (.int (f q.2 : Nat)) H2 → te ((wipe σ vs).set i8 (some (.ref q.1))) H2 R) (hw : ∀ x, wipe ((wipe σ vs).set i8 x) vs = wipe σ vs)
    (hq : ∀ H2, Same H H2 → H2 D = some (.lst ((qs.map fun q => ((f q.2 : Nat) : Int)).map V.int)) → Qd H2) :
    ∃ W : Nat → Nat → Hp → Prop, (∃ m, W 0 m (upd H D (.lst []))) ∧ ∀ i m H, W i m H →
      ((Itt K pi).stop i H ∧ Qd H) ∨ ((Itt K pi).go i H ∧ ∃ Nx : Hp → Prop, (∀ H', Nx H' → ∃ m', m' < m ∧ W (i + 1) m' H') ∧ ∀ x H', (Itt K pi).yld i H x H' → gName i8 x (wipe σ vs) H' fun σ2 H2 => wipe σ2 vs = wipe σ vs ∧ tYes σ2 H2 fun b H3 =>
        if b = true then te σ2 H3 fun y H4 => ∃ acc, H4 D = some (.lst acc) ∧ acc.length < sizeLine ∧ Nx (upd H4 D (.lst (acc ++ [y]))) else Nx H3) := by
  refine lc_it (walk_tup (K := K) (a := pi) (xs := refsOf qs)) (g := gName i8) (tt := tYes) (te := te) (fun i H2 => Same H H2 ∧ H2 D = some (.lst (((qs.take i).map fun q => ((f q.2 : Nat) : Int)).map V.int))) ⟨same_new hD, upd_same⟩ (fun i H2 _ h => (KpT.of_same h.1).sq hs) ?_ ?_
  · rintro i x H1 H2 hi ⟨sm, hd⟩ ⟨rfl, hx⟩
    have hx : (qs.map fun q => V.ref q.1)[i]? = some x := hx
    rw [List.getElem?_map] at hx
    obtain ⟨q, hq', rfl⟩ := Option.map_eq_some_iff.mp hx
    refine ⟨hw _, ?_⟩
    refine ht i q H2 _ sm hq' ⟨_, hd, ?_, ?_, ?_⟩
    · rw [List.length_map, List.length_map, List.length_take]
      exact lt5000 (by omega)
    · intro b o e
      rw [upd_ne (ne_of_none e hD)]
      exact sm _ _ e
    · rw [upd_same, List.take_add_one, hq']
      simp
  · rintro H2 ⟨sm, hd⟩
    refine hq H2 sm ?_
    rw [hd, List.take_of_length_le (by simp [refsOf])]
def spStInit (K : PySem.W.Frag) (A : Ads) : Sp := fun vs H Q _ => ∃ (a C dx pm pb po : Addr) (line : Str) (bs os : List (Addr × Sd)), vs = [.ref a, .str line, .ref pm, .ref pb, .ref po] ∧ C ∈ A.fam ∧ H a = some (.ins C dx []) ∧ SqT K H pb (refsOf bs) ∧ SqT K H po (refsOf os) ∧
  PartsAt K A H bs ∧ PartsAt K A H os ∧ sumA bs + sumA os ≤ 39 ∧ maxL (bs ++ os) ≤ 4 ∧ line.length ≤ 200 ∧ AlnT line ∧
  ∀ (ps pr : Addr) (H' : Hp), H' a = some (.ins C dx [("size", .ref ps), ("mentioned", .ref pm), ("body", .ref pb), ("otherwise", .ref po), ("cell", .non), ("into", .non), ("rows", .ref pr)]) → H' ps = some (.tup [.int (1 + (sumA bs + sumA os) : Nat), .int (1 + maxL (bs ++ os) : Nat)]) →
    H' pr = some (.tup ((rowsOf line bs os).map V.str)) → KeepBut a H H' → Q .non H'
theorem ok_Statement___init__ (T : Txt K mg A) : FnOk P w K mg base CX0 3 A.a_Statement___init__ A.d_Statement___init__ ["self", "line", "mentioned", "body", "otherwise"] (spStInit K A) := by
  have nd := sc_Statement___init__.nd
  refine T.f_Statement___init__.ok sc_Statement___init__ (fun vs H Q E h => ?_) (fun cdv A' outer s H vs Q E hr h => ?_)
  · obtain ⟨a, C, dx, pm, pb, po, line, bs, os, rfl, _⟩ := h
    rfl
  · obtain ⟨a, C, dx, pm, pb, po, line, bs, os, rfl, hC, ha, hb, ho, pbs, pos, h39, h4, ll, la, k⟩ := h
    have fc := T.fam C hC
    have pin := pbs.app pos
    have lin := len_sumA pin
    rw [sumA_app] at lin
    have lbs : bs.length ≤ 39 := by have := len_sumA pbs; omega
    have los : os.length ≤ 39 := by have := len_sumA pos; omega
    have flb := flatR_len pbs
    have flo := flatR_len pos
    have tail : ∃ t, PSs (cxOf CX0 P w K mg base nm_Statement___init__ "Statement.__init__" (defScope st_Statement___init__) A.a_Statement___init__ cdv A' outer s H E).nox ((defBody st_Statement___init__).drop 3) t ∧
        ∀ (pi : Addr) (H1 : Hp), Same H H1 → t { nx := fun _ H' => Q .non H', rt := Q } [some (.ref a), some (.str line), some (.ref pm), some (.ref pb), some (.ref po), some (.ref pi), some (.int (1 + ((sumA bs + sumA os : Nat) : Int))), some (.int (1 + ((maxL (bs ++ os) : Nat) : Int))), none] H1 := by
      refine ⟨_, (pss_cons (ps_if (pt_cmpR op_gt (pv 6) (pe_gI T.c_MAX_STATEMENTS) (nomark _)) (pss_one ps_never) pss_nil)
      (pss_cons (ps_if (pt_cmpR op_gt (pv 7) (pe_gI T.c_MAX_LEVEL) (nomark _)) (pss_one ps_never) pss_nil)
      (pss_cons (ps_fld (pv 0) (pe_tup (pa_cons (pv 6) (pa_cons (pv 7) pa_nil))) rfl)
      (pss_cons (ps_fld (pv 0) (pv 2) rfl)
      (pss_cons (ps_fld (pv 0) (pv 3) rfl)
      (pss_cons (ps_fld (pv 0) (pv 4) rfl)
      (pss_cons (ps_fld (pv 0) pe_non rfl)
      (pss_cons (ps_fld (pv 0) pe_non rfl)
      (pss_one (ps_fld (pv 0) (pe_tup (pa_cons (pv 1) (pa_star (pe_call (ok_indented T) (hr.mono (by decide)) (by rfl) T.m_indented T.k_indented T.v_indented .nil pass0 (pa_cons (pv 3) pa_nil)) (pa_star (pe_ifExp (pt_truth (pv 4) (by intro _; rfl)) (pe_tup (pa_cons pe_str (pa_star (pe_call (ok_indented T) (hr.mono (by decide)) (by rfl) T.m_indented T.k_indented T.v_indented .nil pass0 (pa_cons (pv 4) pa_nil)) pa_nil))) (pe_tup pa_nil)) pa_nil)))) rfl)))))))))), fun pi H1 s1 => ?_⟩
      refine ⟨_, rfl, _, _, rfl, rfl, _, rfl, ?_⟩
      refine ite2 (fun h => absurd (of_decide_eq_true h) (by omega)) (fun _ => ?_)
      refine ⟨_, rfl, _, _, rfl, rfl, _, rfl, ?_⟩
      refine ite2 (fun h => absurd (of_decide_eq_true h) (by omega)) (fun _ => ?_)
      have na : ∀ f ∈ famAttrs, NoAttr K C f := fc.na
      refine ⟨_, rfl, _, rfl, (by show 2 ≤ sizeLine; decide), fun ps hps => ?_⟩
      have s2 := s1.trans (same_new (o := .tup [.int (1 + ((sumA bs + sumA os : Nat) : Int)), .int (1 + ((maxL (bs ++ os) : Nat) : Int))]) hps)
      have npa : ps ≠ a := (ne_of_none (s1 _ _ ha) hps).symm
      refine ⟨_, rfl, a, C, dx, [], rfl, s2 _ _ ha, fc.cl, na _ (by decide +kernel), (by show 0 < 1000; decide), ?_⟩
      refine ⟨_, rfl, _, rfl, a, C, dx, _, rfl, upd_same, fc.cl, na _ (by decide +kernel), (by show 1 < 1000; decide), ?_⟩
      refine ⟨_, rfl, _, rfl, a, C, dx, _, rfl, upd_same, fc.cl, na _ (by decide +kernel), (by show 2 < 1000; decide), ?_⟩
      refine ⟨_, rfl, _, rfl, a, C, dx, _, rfl, upd_same, fc.cl, na _ (by decide +kernel), (by show 3 < 1000; decide), ?_⟩
      refine ⟨_, rfl, a, C, dx, _, rfl, upd_same, fc.cl, na _ (by decide +kernel), (by show 4 < 1000; decide), ?_⟩
      refine ⟨_, rfl, a, C, dx, _, rfl, upd_same, fc.cl, na _ (by decide +kernel), (by show 5 < 1000; decide), ?_⟩
      have fin : ∀ Hx : Hp, Hx a = some (.ins C dx [("size", .ref ps), ("mentioned", .ref pm), ("body", .ref pb), ("otherwise", .ref po), ("cell", .non), ("into", .non)]) → KeepBut a H Hx → Hx ps = some (.tup [.int (1 + ((sumA bs + sumA os : Nat) : Int)), .int (1 + ((maxL (bs ++ os) : Nat) : Int))]) →
          sFld K (tVar 0) (tTup (tCons (tVar 1) (tStar K (tCall (spIndent K A) [] E0 (tCons (tVar 3) tNil)) (tStar K (tIf (fun σ H_1 Q => tVar 4 σ H_1 fun x H' => ∃ k, TruV K x H' k ∧ Q k H') (tTup (tCons (tC (V.str "else")) (tStar K (tCall (spIndent K A) [] E0 (tCons (tVar 4) tNil)) tNil))) (tTup tNil)) tNil)))) "rows"
            { nx := fun _ H' => Q .non H', rt := Q } [some (.ref a), some (.str line), some (.ref pm), some (.ref pb), some (.ref po), some (.ref pi), some (.int (1 + ((sumA bs + sumA os : Nat) : Int))), some (.int (1 + ((maxL (bs ++ os) : Nat) : Int))), none] Hx := by
        intro Hx hxa kb hxs
        have kp : KpT H Hx := KpT.new ha kb
        have mb := maxL_app bs os
        refine ⟨_, rfl, _, rfl, pb, bs, rfl, kp.sq hb, pbs.mv kp, by omega, by omega, fun l H2 hl s2 h2 => ?_⟩
        refine ⟨l, _, rfl, .inr (SqL.of h2), _, rfl, !(refsOf os).isEmpty, .inr (.inl ⟨_, (kp.trans (KpT.of_same s2)).sq ho, rfl⟩), ?_⟩
        -- the end, once the rows are there
        have last : ∀ (xs : List V) (H3 : Hp), Same H2 H3 → xs = (rowsOf line bs os).map V.str → xs.length ≤ sizeLine ∧ ∀ p, H3 p = none → (tVar 0) [some (.ref a), some (.str line), some (.ref pm), some (.ref pb), some (.ref po), some (.ref pi), some (.int (1 + ((sumA bs + sumA os : Nat) : Int))), some (.int (1 + ((maxL (bs ++ os) : Nat) : Int))), none] (upd H3 p (.tup xs))
            fun x H4 => ∃ a C dx fs, x = .ref a ∧ H4 a = some (.ins C dx fs) ∧ Cls K C ∧ NoAttr K C "rows" ∧ fs.length < 1000 ∧ Q .non (upd H4 a (.ins C dx (putF "rows" (.ref p) fs))) := by
          rintro xs H3 s3 rfl
          have ro := rowsOf_ok ll la pbs pos h39 h4
          refine ⟨?_, fun p hp => ?_⟩
          · rw [List.length_map]
            exact len5000 (by have := ro.2.2.2.2.2.1; omega)
          · have hp2 : Hx p = none := (s2.trans s3).free hp
            have nap : a ≠ p := ne_of_none ((s2.trans s3) _ _ hxa) hp
            have nps : ps ≠ p := ne_of_none ((s2.trans s3) _ _ hxs) hp
            have s4 := (s2.trans s3).trans (same_new (o := .tup ((rowsOf line bs os).map V.str)) hp)
            refine ⟨_, rfl, a, C, dx, _, rfl, s4 _ _ hxa, fc.cl, fc.na _ (by decide +kernel), (by show 6 < 1000; decide), ?_⟩
            refine k ps p _ upd_same ?_ ?_ ?_
            · rw [upd_ne npa, s4 _ _ hxs]
              congr 4 <;> simp
            · rw [upd_ne nap.symm, upd_same]
            · intro b o nb e
              rw [upd_ne nb]
              exact s4 _ _ (kb _ _ nb e)
        by_cases e : os = []
        · subst e
          refine (if_neg (by decide)).mpr ?_
          refine ⟨by decide, fun p2 hp2 => ⟨p2, [], rfl, .inl (SqT.of upd_same), ?_⟩⟩
          exact last _ _ (same_new (o := .tup []) hp2) (by simp [rowsOf])
        · have ne : (!(refsOf os).isEmpty) = true := by
            cases os with
            | nil => exact absurd rfl e
            | cons q l => rfl
          rw [ne]
          refine (if_pos rfl).mpr ?_
          refine ⟨_, rfl, po, os, rfl, (kp.trans (KpT.of_same s2)).sq ho, pos.mv (kp.trans (KpT.of_same s2)), by omega, by omega, fun l2 H3 hl2 s3 h3 => ?_⟩
          refine ⟨l2, _, rfl, .inr (SqL.of h3), ?_, fun p2 hp2 => ⟨p2, _, rfl, .inl (SqT.of upd_same), ?_⟩⟩
          · rw [List.append_nil, List.length_cons, List.length_map]
            unfold ind
            rw [List.length_map]
            exact len5000 (by omega)
          · exact last _ _ (s3.trans (same_new hp2)) (by simp [rowsOf, e])
      refine fin _ upd_same ?_ ?_
      · intro b o nb e
        rw [upd_ne nb, upd_ne nb, upd_ne nb, upd_ne nb, upd_ne nb, upd_ne nb]
        exact s2 _ _ e
      · rw [upd_ne npa, upd_ne npa, upd_ne npa, upd_ne npa, upd_ne npa, upd_ne npa, upd_same]
    obtain ⟨t3, D3, rest3⟩ := tail
    refine ⟨_, (pss_cons (ps_set (i := 5) nd rfl (Or.inl rfl) (pe_op op_catX (pv 3) (pv 4)))
      (pss_cons (ps_set (i := 6) nd rfl (Or.inl rfl) (pe_op op_add pe_int (pe_callB (cr_sum rfl) (by rfl) T.b_sum (by decide +kernel) (pa_cons (pe_lc (own := [("part", 8)]) (g := gName 8) (tt := tYes) rfl nd (pi_tup (pv 5)) (blkOk_by (N := nm_Statement___init__) (sc := defScope st_Statement___init__) (by decide +kernel)) (fun _ _ _ _ _ => (pg_name (i := 8) nd rfl (Or.inl rfl))) (fun _ _ _ _ _ => pts_nil) (fun _ _ _ _ _ => (pe_propF (pv 8) T.pr_Statement_amount (ok_Statement_amount T) (hr.mono (by decide)) T.v_Statement_amount pass0))) pa_nil))))
      (pss_cons (ps_set (i := 7) nd rfl (Or.inl rfl) (pe_op op_add pe_int (pe_callBK (cr_maxDf rfl) (by rfl) T.b_max (by decide +kernel) (pa_cons (pe_lc (own := [("part", 8)]) (g := gName 8) (tt := tYes) rfl nd (pi_tup (pv 5)) (blkOk_by (N := nm_Statement___init__) (sc := defScope st_Statement___init__) (by decide +kernel)) (fun _ _ _ _ _ => (pg_name (i := 8) nd rfl (Or.inl rfl))) (fun _ _ _ _ _ => pts_nil) (fun _ _ _ _ _ => (pe_propF (pv 8) T.pr_Statement_level (ok_Statement_level T) (hr.mono (by decide)) T.v_Statement_level pass0))) pa_nil) (pk_cons pe_int pk_nil))))
      D3))), ?_⟩
    refine ⟨_, rfl, _, rfl, catX_ok hb ho ?_ fun pi H1 s1 hi => ?_⟩
    · simp only [refsOf, List.length_map]
      exact len5000 (by omega)
    rw [refs_app] at hi
    refine ⟨_, rfl, pi, rfl, ⟨_, hi⟩, fun D hD => nums_lc (f := Sd.am) hi hD (by omega) (i8 := 8) (fun j q H2 R s2 hq r => ?_) (fun _ => rfl) fun H2 s2 hd => ?_⟩
    · obtain ⟨b1, o1, st⟩ := (pin.mv (KpT.of_same (s1.trans s2))) q (List.mem_of_getElem? hq)
      have st' := st
      obtain ⟨C1, dx1, fs1, ps1, pr1, pb1, po1, g1, g2, g3, g4, g5, g6, g7, g8, g9, g10, g11, g12⟩ := st
      exact ⟨_, rfl, q.1, C1, dx1, fs1, rfl, List.mem_of_getElem? g1, g2, q.1, q.2, b1, o1, rfl, st', r⟩
    have s12 := s1.trans s2
    have e1 : ((bs ++ os).map fun q => ((q.2.am : Nat) : Int)).sum = ((sumA bs + sumA os : Nat) : Int) := by
      rw [← sumA_app]
      unfold sumA
      generalize bs ++ os = l
      induction l with
      | nil => rfl
      | cons q l ih =>
        rw [List.map_cons, List.sum_cons, ih, List.map_cons, List.sum_cons]
        omega
    refine ⟨D, _, rfl, SqL.of hd, _, _, rfl, rfl, ?_⟩
    rw [e1]
    refine ⟨_, rfl, pi, rfl, ⟨_, (KpT.of_same s2).sq hi⟩, fun D2 hD2 => nums_lc (f := Sd.lv) ((KpT.of_same s2).sq hi) hD2 (by omega) (i8 := 8) (fun j q H3 R s3 hq r => ?_) (fun _ => rfl) fun H3 s3 hd3 => ?_⟩
    · obtain ⟨b1, o1, st⟩ := (pin.mv (KpT.of_same (s12.trans s3))) q (List.mem_of_getElem? hq)
      have st' := st
      obtain ⟨C1, dx1, fs1, ps1, pr1, pb1, po1, g1, g2, g3, g4, g5, g6, g7, g8, g9, g10, g11, g12⟩ := st
      exact ⟨_, rfl, q.1, C1, dx1, fs1, rfl, List.mem_of_getElem? g1, g2, q.1, q.2, b1, o1, rfl, st', r⟩
    have s13 := s12.trans s3
    refine ⟨D2, _, _, rfl, rfl, SqL.of hd3, fun e => ?_, fun m hm hmax => ?_⟩
    · have e : bs ++ os = [] := List.map_eq_nil_iff.mp e
      have z : maxL (bs ++ os) = 0 := by rw [e]; rfl
      have r := rest3 pi H3 s13
      rw [z] at r
      exact ⟨_, _, rfl, rfl, r⟩
    · obtain ⟨q, hq, rfl⟩ := List.mem_map.mp hm
      obtain ⟨m1, m2⟩ := maxL_mem (bs ++ os)
      obtain ⟨q2, hq2, e2⟩ := m2 (List.ne_nil_of_mem hq)
      have e3 : q.2.lv = maxL (bs ++ os) := by
        have h1 := m1 q hq
        have h2 := hmax _ (List.mem_map.mpr ⟨q2, hq2, rfl⟩)
        omega
      have r := rest3 pi H3 s13
      rw [← e3] at r
      exact ⟨_, _, rfl, rfl, r⟩
end
end K07
set_option Elab.async false
set_option linter.all false
set_option maxRecDepth 100000
set_option maxHeartbeats 4000000
namespace K07
open PySem PySem.Spec PyProof.Rows L2 Mo
/-! ### rows as data -/
def rowsD (rs : List Str) : PyData := .tuple (rs.map PyData.str)
theorem plAll_strs : ∀ {l : List Str}, (∀ r ∈ l, AlnT r) → PlAll (l.map PyData.str)
  | [], _ => by
    show PlAll []
    rw [PlAll]
    trivial
  | r :: l, h => by
    show PlAll (PyData.str r :: l.map PyData.str)
    rw [PlAll, Pl]
    exact ⟨h r List.mem_cons_self, plAll_strs fun x hx => h x (List.mem_cons_of_mem _ hx)⟩
theorem pl_rows {l : List Str} (h : ∀ r ∈ l, AlnT r) : Pl (rowsD l) := by
  unfold rowsD
  rw [Pl]
  exact plAll_strs h
theorem strs_inj : ∀ {a b : List Str}, a.map PyData.str = b.map PyData.str → a = b
  | [], [], _ => rfl
  | [], _ :: _, h => by simp at h
  | _ :: _, [], h => by simp at h
  | x :: a, y :: b, h => by
    simp only [List.map_cons, List.cons.injEq, PyData.str.injEq] at h
    rw [h.1, strs_inj h.2]
theorem eqv_rows {a b : List Str} (ha : ∀ r ∈ a, AlnT r) (hb : ∀ r ∈ b, AlnT r) : PyData.eqv (rowsD a) (rowsD b) = decide (a = b) := by
  by_cases e : a = b
  · subst e
    rw [eqv_refl_plain (pl_rows ha), decide_eq_true rfl]
  · rw [decide_eq_false e]
    cases z : PyData.eqv (rowsD a) (rowsD b) with
    | false => rfl
    | true =>
      have := eqv_plain (pl_rows ha) (pl_rows hb) z
      unfold rowsD at this
      injection this with this
      exact absurd (strs_inj this) e
theorem shaped_rows {l : List Str} (h : ∀ r ∈ l, AlnT r) : SeqAt.shaped (rowsD l) = true := by
  obtain ⟨h1, h2⟩ := lay_strs fun y hy => AlnT.asc (h y hy)
  unfold SeqAt.shaped
  rw [Bool.and_eq_true]
  refine ⟨h1, decide_eq_true ?_⟩
  show PyData.depthAll (l.map PyData.str) + 1 ≤ 64
  omega
theorem RowsOk.aln {am lv : Nat} {rows : List Str} (h : RowsOk am lv rows) : ∀ r ∈ rows, AlnT r := fun r hr => (h.2.2.2.2.2.2 r hr).2
/-! ### names and operands -/
def NameT (z : Str) : Prop := isNameV (.str z) = true ∧ AlnT z ∧ z.length ≤ 8
def OperT (z : Str) : Prop := isOperV (.str z) = true ∧ AlnT z ∧ z.length ≤ 8
theorem NameT.th {z : Str} (h : NameT z) (H : Hp) : Th H (.str z) .str := .str z (by have := h.2.2; omega) (AlnT.asc h.2.1)
theorem OperT.th {z : Str} (h : OperT z) (H : Hp) : Th H (.str z) .str := .str z (by have := h.2.2; omega) (AlnT.asc h.2.1)
theorem NameT.oper {z : Str} (h : NameT z) : OperT z := by
  refine ⟨?_, h.2⟩
  have e : nameB z = true := h.1
  show (fixedB z || nameB z) = true
  rw [e, Bool.or_true]
section
variable {w : World} {K : PySem.W.Frag} {mg : Str → Option Value} {base : Heap} {A : Ads}
def spEq (K : PySem.W.Frag) (A : Ads) : Sp := fun vs H Q _ => ∃ p d bs os y, vs = [.ref p, y] ∧ StAt K A H p d bs os ∧ ((∃ q e b2 o2, y = .ref q ∧ StAt K A H q e b2 o2 ∧ Q (.bl (decide (d.rows = e.rows))) H) ∨ ∃ n, Th H y n ∧ Q (.bl false) H)
theorem ok_Statement___eq__ (T : Txt K mg A) : FnOk P w K mg base CX0 1 A.a_Statement___eq__ A.d_Statement___eq__ ["self", "other"] (spEq K A) := by
  have nd := sc_Statement___eq__.nd
  refine T.f_Statement___eq__.ok sc_Statement___eq__ (fun vs H Q E h => ?_) (fun cdv A' outer s H vs Q E hr h => ?_)
  · obtain ⟨p, d, bs, os, y, rfl, _⟩ := h
    rfl
  · obtain ⟨p, d, bs, os, y, rfl, ⟨C, dx, fs, ps, pr, pb, po, h1, h2, h3, h4, h5, h6, h7, h8, h9, h10, h11, h12⟩, h⟩ := h
    have fc := T.fam C (List.mem_of_getElem? h1)
    refine ⟨_, (pss_one (ps_ret (pe_and (pe_callB call_isi (by rfl) T.b_isinstance (by decide +kernel) (pa_cons (pv 1) (pa_cons (pe_gR T.m_Statement) pa_nil))) (pe_one (pe_cmpR (op_eqD hr.units) (pe_fld (pv 0) rfl) (pe_fld (pv 1) rfl) (nomark _)))))), ?_⟩
    rcases h with ⟨q, e, b2, o2, rfl, ⟨C', dx', fs', ps', pr', pb', po', g1, g2, g3, g4, g5, g6, g7, g8, g9, g10, g11, g12⟩, k⟩ | ⟨n, th, k⟩
    · have fc' := T.fam C' (List.mem_of_getElem? g1)
      refine ⟨_, rfl, _, _, _, _, _, rfl, .own _, fc'.ty _ _ _ _ g2, (T.sub C' (List.mem_of_getElem? g1)).2, _, rfl, ?_⟩
      refine ⟨_, rfl, p, C, dx, _, _, rfl, h2, fc.cl, fc.na _ (by decide +kernel), h5, ?_⟩
      refine ⟨_, rfl, q, C', dx', _, _, rfl, g2, fc'.cl, fc'.na _ (by decide +kernel), g5, ?_⟩
      refine ⟨rowsD d.rows, rowsD e.rows, .tup (SqT.of h6) (dp_strs _), .tup (SqT.of g6) (dp_strs _), shaped_rows h12.aln, shaped_rows g12.aln, ?_⟩
      rw [eqv_rows h12.aln g12.aln]
      exact k
    · exact ⟨_, rfl, _, _, _, _, _, rfl, .own _, th.ty, T.famB.ki7 n, _, rfl, k⟩
def spStr (K : PySem.W.Frag) (A : Ads) (f : Sd → Str) : Sp := fun vs H Q _ => ∃ p d bs os, vs = [.ref p] ∧ StAt K A H p d bs os ∧ Q (.str (f d)) H
theorem sum_len {l : List Str} {n : Nat} (h : ∀ r ∈ l, r.length ≤ n) : (l.map (·.length)).sum ≤ l.length * n := by
  induction l with
  | nil => simp
  | cons r l ih =>
    have h1 := h r List.mem_cons_self
    have h2 := ih fun x hx => h x (List.mem_cons_of_mem _ hx)
    rw [List.map_cons, List.sum_cons, List.length_cons, Nat.succ_mul]
    omega
theorem ok_Statement___str__ (T : Txt K mg A) : FnOk P w K mg base CX0 1 A.a_Statement___str__ A.d_Statement___str__ ["self"] (spStr K A fun d => Txt.join "\n" d.rows) := by
  have nd := sc_Statement___str__.nd
  refine T.f_Statement___str__.ok sc_Statement___str__ (fun vs H Q E h => ?_) (fun cdv A' outer s H vs Q E hr h => ?_)
  · obtain ⟨p, d, bs, os, rfl, _⟩ := h
    rfl
  · obtain ⟨p, d, bs, os, rfl, ⟨C, dx, fs, ps, pr, pb, po, h1, h2, h3, h4, h5, h6, h7, h8, h9, h10, h11, h12⟩, k⟩ := h
    have fc := T.fam C (List.mem_of_getElem? h1)
    refine ⟨_, (pss_one (ps_ret (pe_join pe_str (pe_fld (pv 0) rfl)))), ?_⟩
    refine ⟨⟨_, rfl⟩, _, rfl, p, C, dx, _, _, rfl, h2, fc.cl, fc.na _ (by decide +kernel), h5, "\n", pr, d.rows, rfl, rfl, .inr (SqT.of h6), ?_, k⟩
    obtain ⟨a1, a2, a3, a4, a5, a6, a7⟩ := h12
    have := sum_len (n := 210) fun r hr => by
      have := (a7 r hr).1
      omega
    have e : ("\n" : Str).length = 1 := rfl
    rw [e]
    omega
theorem ok_Statement___repr__ (T : Txt K mg A) : FnOk P w K mg base CX0 1 A.a_Statement___repr__ A.d_Statement___repr__ ["self"] (spStr K A fun d => "Statement(" ++ d.rows.headD "" ++ ")") := by
  have nd := sc_Statement___repr__.nd
  refine T.f_Statement___repr__.ok sc_Statement___repr__ (fun vs H Q E h => ?_) (fun cdv A' outer s H vs Q E hr h => ?_)
  · obtain ⟨p, d, bs, os, rfl, _⟩ := h
    rfl
  · obtain ⟨p, d, bs, os, rfl, ⟨C, dx, fs, ps, pr, pb, po, h1, h2, h3, h4, h5, h6, h7, h8, h9, h10, h11, h12⟩, k⟩ := h
    have fc := T.fam C (List.mem_of_getElem? h1)
    obtain ⟨a1, a2, a3, a4, a5, a6, a7⟩ := h12
    obtain ⟨r, rs, er⟩ : ∃ r rs, d.rows = r :: rs := by
      cases e : d.rows with
      | nil =>
        rw [e] at a5
        simp at a5
      | cons r rs => exact ⟨r, rs, rfl⟩
    have lr := (a7 r (by rw [er]; exact List.mem_cons_self)).1
    rw [er] at h6
    have k : Q (.str (("Statement(" : Str) ++ d.rows.headD "" ++ (")" : Str))) H := k
    rw [show d.rows.headD "" = r by rw [er]; rfl] at k
    refine ⟨_, (pss_one (ps_ret (pe_fs (.cons pe_str (.cons (pe_fmt (pe_ix ix_tup (pe_fld (pv 0) rfl) pe_int (fun _ _ => rfl))) (.cons pe_str .nil)))))), ?_⟩
    have l0 : (Str.empty).length = 0 := rfl
    have l1 : ("Statement(" : Str).length = 10 := rfl
    have l2 : (")" : Str).length = 1 := rfl
    refine ⟨("Statement(" : Str), rfl, len5000 (by simp only [app_length, l0, l1]; omega), _, rfl, p, C, dx, _, _, rfl, h2, fc.cl, fc.na _ (by decide +kernel), h5, pr, _, _, _, rfl, rfl, SqT.of h6, atI_nat (j := 0) rfl, Or.inl ⟨r, rfl, len5000 (by omega), r, rfl, len5000 (by simp only [app_length, l0, l1]; omega), (")" : Str), rfl, len5000 (by simp only [app_length, l0, l1, l2]; omega), ?_⟩⟩
    show Q (.str (Str.empty ++ ("Statement(" : Str) ++ r ++ (")" : Str))) H
    rw [emp_app]
    exact k
def spLook (K : PySem.W.Frag) (A : Ads) : Sp := fun vs H Q _ => ∃ (a dx : Addr) (z0 z1 : Str), vs = [.ref a, .str z0, .str z1] ∧ H a = some (.ins A.c_Look dx []) ∧ NameT z0 ∧ NameT z1 ∧ ∀ H', (StAt K A H' a ⟨0, 1, 1, [("look " : Str) ++ z0 ++ (" into " : Str) ++ z1]⟩ [] [] ∧ StF K H' a ⟨some z0, some z1, [z1], []⟩) → KeepBut a H H' → Q .non H'
theorem ok_Look___init__ (T : Txt K mg A) : FnOk P w K mg base CX0 5 A.a_Look___init__ A.d_Look___init__ ["self", "cell", "into"] (spLook K A) := by
  have nd := ss_Look___init__.nd
  refine T.f_Look___init__.ok ss_Look___init__ (ar := _) rfl rfl rfl (fun vs H Q E h => ?_) (fun cdv A' outer s H vs Q E hr S h => ?_)
  · obtain ⟨a, dx, z0, z1, rfl, _⟩ := h
    rfl
  · obtain ⟨a, dx, z0, z1, rfl, ha, hz0, hz1, k⟩ := h
    have mem : A.c_Look ∈ A.fam := List.mem_of_getElem? (show A.fam[0]? = some A.c_Look from rfl)
    have fc := T.fam _ mem
    refine ⟨_, (psa_cons (ps_expr (pe_call (ok_check_name T) (hr.mono (by decide)) (by rfl) T.m_check_name T.k_check_name T.v_check_name .nil pass0 (pa_cons (pv 1) pa_nil)))
      (psa_cons (ps_expr (pe_call (ok_check_name T) (hr.mono (by decide)) (by rfl) T.m_check_name T.k_check_name T.v_check_name .nil pass0 (pa_cons (pv 2) pa_nil)))
      (psa_sup S ((ok_Statement___init__ T).raw (dvs := [.ref A.x_Statement___init___1, .ref A.x_Statement___init___2]) T.vd_Statement___init___2 (.cons rfl (.cons rfl .nil))) (hr.mono (by decide)) pass0 (pa_cons (pe_fs (.cons pe_str (.cons (pe_fmt (pv 1)) (.cons pe_str (.cons (pe_fmt (pv 2)) .nil))))) (pa_cons (pe_tup (pa_cons (pv 2) pa_nil)) pa_nil)) (psa_any (pss_cons (ps_fld (pv 0) (pv 1) rfl)
      (pss_one (ps_fld (pv 0) (pv 2) rfl)))) T.b_super T.fi_Statement___init__ T.ft_Statement___init__))), ?_⟩
    refine ⟨_, rfl, .str z0, .str, rfl, hz0.th H, hz0.1, fun H1 s1 => ?_⟩
    have q1 := s1
    refine ⟨_, rfl, .str z1, .str, rfl, hz1.th H1, hz1.1, fun H2 s2 => ?_⟩
    have q2 := q1.trans s2
    refine ⟨a, A.c_Look, dx, [], rfl, q2 _ _ ha, T.slf _ mem, T.sup _ mem, fun q hq => ?_⟩
    have sq := q2.trans (same_new (o := .met A.a_Statement___init__ a) hq)
    have l0 : (Str.empty).length = 0 := rfl
    have l1 : (" into " : Str).length = 6 := rfl
    have l2 : ("look " : Str).length = 5 := rfl
    have mz0 := hz0.2.2
    have mz1 := hz1.2.2
    refine ⟨("look " : Str), rfl, (len5000 (by simp only [app_length, l0, l1, l2]; omega)), _, rfl, Or.inl ⟨z0, rfl, len5000 (by omega), z0, rfl, (len5000 (by simp only [app_length, l0, l1, l2]; omega)), (" into " : Str), rfl, (len5000 (by simp only [app_length, l0, l1, l2]; omega)), _, rfl, Or.inl ⟨z1, rfl, len5000 (by omega), z1, rfl, (len5000 (by simp only [app_length, l0, l1, l2]; omega)), _, rfl, (by show 1 ≤ sizeLine; decide), fun pm hpm => ?_⟩⟩⟩
    have sm := sq.trans (same_new (o := .tup [.str z1]) hpm)
    have hm : (upd (upd H2 q (.met A.a_Statement___init__ a)) pm (.tup [.str z1])) q = some (.met A.a_Statement___init__ a) := same_new hpm _ _ upd_same
    refine ⟨hm, a, A.c_Look, dx, pm, A.x_Statement___init___1, A.x_Statement___init___2, _, [], [], rfl, mem, sm _ _ ha, T.e_Statement___init___1 _, T.e_Statement___init___2 _, fun _ h => (List.not_mem_nil h).elim, fun _ h => (List.not_mem_nil h).elim, by decide, by decide, ?_, ?_, fun ps pr H' h1 h2 h3 kb => ?_⟩
    · simp only [app_length, l0, l1, l2]
      omega
    · exact (aln_app (aln_app (aln_app (aln_app (aln_by (by decide +kernel)) (aln_by (by decide +kernel))) hz0.2.1) (aln_by (by decide +kernel))) hz1.2.1)
    rw [emp_app] at h3
    refine ⟨_, rfl, _, rfl, a, _, dx, _, rfl, h1, fc.cl, fc.na _ (by decide +kernel), (by show 7 < 1000; decide), ?_⟩
    refine ⟨_, rfl, _, rfl, a, _, dx, _, rfl, upd_same, fc.cl, fc.na _ (by decide +kernel), (by show 7 < 1000; decide), ?_⟩
    have n1 : ps ≠ a := ne_of h2 h1 (by intro z; cases z)
    have n2 : pr ≠ a := ne_of h3 h1 (by intro z; cases z)
    have n3 : pm ≠ a := (ne_of_none (sq _ _ ha) hpm).symm
    refine k _ ⟨⟨A.c_Look, dx, _, ps, pr, A.x_Statement___init___1, A.x_Statement___init___2, rfl, upd_same, rfl, (upd_ne n1).trans ((upd_ne n1).trans (h2)), rfl, (upd_ne n2).trans ((upd_ne n2).trans (h3)), rfl, T.e_Statement___init___1 _, rfl, T.e_Statement___init___2 _, rfl, ?_⟩, ⟨A.c_Look, dx, _, pm, upd_same, (fun z => nomatch z), rfl, rfl, rfl, SqT.of ((upd_ne n3).trans ((upd_ne n3).trans (kb _ _ n3 upd_same))), all0⟩⟩ ?_
    · refine ⟨by show 1 ≤ 1; decide, by show 1 ≤ 40; decide, by show 1 ≤ 1; decide, by show 1 ≤ 5; decide, by show 1 ≤ 1; decide, by show 1 ≤ 2; decide, fun r hr => ?_⟩
      rw [List.mem_singleton.mp hr]
      refine ⟨?_, (aln_app (aln_app (aln_app (aln_by (by decide +kernel)) hz0.2.1) (aln_by (by decide +kernel))) hz1.2.1)⟩
      simp only [app_length, l1, l2]
      omega
    · intro b o nb e
      rw [upd_ne nb, upd_ne nb]
      exact kb _ _ nb (sm _ _ e)
def spPut (K : PySem.W.Frag) (A : Ads) : Sp := fun vs H Q _ => ∃ (a dx : Addr) (z0 z1 : Str), vs = [.ref a, .str z0, .str z1] ∧ H a = some (.ins A.c_Put dx []) ∧ NameT z0 ∧ OperT z1 ∧ ∀ H', (StAt K A H' a ⟨1, 1, 1, [("put " : Str) ++ z0 ++ (" " : Str) ++ z1]⟩ [] [] ∧ StF K H' a ⟨some z0, none, [z1], [("operand", z1)]⟩) → KeepBut a H H' → Q .non H'
theorem ok_Put___init__ (T : Txt K mg A) : FnOk P w K mg base CX0 5 A.a_Put___init__ A.d_Put___init__ ["self", "cell", "operand"] (spPut K A) := by
  have nd := ss_Put___init__.nd
  refine T.f_Put___init__.ok ss_Put___init__ (ar := _) rfl rfl rfl (fun vs H Q E h => ?_) (fun cdv A' outer s H vs Q E hr S h => ?_)
  · obtain ⟨a, dx, z0, z1, rfl, _⟩ := h
    rfl
  · obtain ⟨a, dx, z0, z1, rfl, ha, hz0, hz1, k⟩ := h
    have mem : A.c_Put ∈ A.fam := List.mem_of_getElem? (show A.fam[1]? = some A.c_Put from rfl)
    have fc := T.fam _ mem
    refine ⟨_, (psa_cons (ps_expr (pe_call (ok_check_name T) (hr.mono (by decide)) (by rfl) T.m_check_name T.k_check_name T.v_check_name .nil pass0 (pa_cons (pv 1) pa_nil)))
      (psa_cons (ps_expr (pe_call (ok_check_operand T) (hr.mono (by decide)) (by rfl) T.m_check_operand T.k_check_operand T.v_check_operand .nil pass0 (pa_cons (pv 2) pa_nil)))
      (psa_sup S ((ok_Statement___init__ T).raw (dvs := [.ref A.x_Statement___init___1, .ref A.x_Statement___init___2]) T.vd_Statement___init___2 (.cons rfl (.cons rfl .nil))) (hr.mono (by decide)) pass0 (pa_cons (pe_fs (.cons pe_str (.cons (pe_fmt (pv 1)) (.cons pe_str (.cons (pe_fmt (pv 2)) .nil))))) (pa_cons (pe_tup (pa_cons (pv 2) pa_nil)) pa_nil)) (psa_any (pss_cons (ps_fld (pv 0) (pv 1) rfl)
      (pss_one (ps_fld (pv 0) (pv 2) rfl)))) T.b_super T.fi_Statement___init__ T.ft_Statement___init__))), ?_⟩
    refine ⟨_, rfl, .str z0, .str, rfl, hz0.th H, hz0.1, fun H1 s1 => ?_⟩
    have q1 := s1
    refine ⟨_, rfl, .str z1, .str, rfl, hz1.th H1, hz1.1, fun H2 s2 => ?_⟩
    have q2 := q1.trans s2
    refine ⟨a, A.c_Put, dx, [], rfl, q2 _ _ ha, T.slf _ mem, T.sup _ mem, fun q hq => ?_⟩
    have sq := q2.trans (same_new (o := .met A.a_Statement___init__ a) hq)
    have l0 : (Str.empty).length = 0 := rfl
    have l1 : (" " : Str).length = 1 := rfl
    have l2 : ("put " : Str).length = 4 := rfl
    have mz0 := hz0.2.2
    have mz1 := hz1.2.2
    refine ⟨("put " : Str), rfl, (len5000 (by simp only [app_length, l0, l1, l2]; omega)), _, rfl, Or.inl ⟨z0, rfl, len5000 (by omega), z0, rfl, (len5000 (by simp only [app_length, l0, l1, l2]; omega)), (" " : Str), rfl, (len5000 (by simp only [app_length, l0, l1, l2]; omega)), _, rfl, Or.inl ⟨z1, rfl, len5000 (by omega), z1, rfl, (len5000 (by simp only [app_length, l0, l1, l2]; omega)), _, rfl, (by show 1 ≤ sizeLine; decide), fun pm hpm => ?_⟩⟩⟩
    have sm := sq.trans (same_new (o := .tup [.str z1]) hpm)
    have hm : (upd (upd H2 q (.met A.a_Statement___init__ a)) pm (.tup [.str z1])) q = some (.met A.a_Statement___init__ a) := same_new hpm _ _ upd_same
    refine ⟨hm, a, A.c_Put, dx, pm, A.x_Statement___init___1, A.x_Statement___init___2, _, [], [], rfl, mem, sm _ _ ha, T.e_Statement___init___1 _, T.e_Statement___init___2 _, fun _ h => (List.not_mem_nil h).elim, fun _ h => (List.not_mem_nil h).elim, by decide, by decide, ?_, ?_, fun ps pr H' h1 h2 h3 kb => ?_⟩
    · simp only [app_length, l0, l1, l2]
      omega
    · exact (aln_app (aln_app (aln_app (aln_app (aln_by (by decide +kernel)) (aln_by (by decide +kernel))) hz0.2.1) (aln_by (by decide +kernel))) hz1.2.1)
    rw [emp_app] at h3
    refine ⟨_, rfl, _, rfl, a, _, dx, _, rfl, h1, fc.cl, fc.na _ (by decide +kernel), (by show 7 < 1000; decide), ?_⟩
    refine ⟨_, rfl, _, rfl, a, _, dx, _, rfl, upd_same, fc.cl, fc.na _ (by decide +kernel), (by show 7 < 1000; decide), ?_⟩
    have n1 : ps ≠ a := ne_of h2 h1 (by intro z; cases z)
    have n2 : pr ≠ a := ne_of h3 h1 (by intro z; cases z)
    have n3 : pm ≠ a := (ne_of_none (sq _ _ ha) hpm).symm
    refine k _ ⟨⟨A.c_Put, dx, _, ps, pr, A.x_Statement___init___1, A.x_Statement___init___2, rfl, upd_same, rfl, (upd_ne n1).trans ((upd_ne n1).trans (h2)), rfl, (upd_ne n2).trans ((upd_ne n2).trans (h3)), rfl, T.e_Statement___init___1 _, rfl, T.e_Statement___init___2 _, rfl, ?_⟩, ⟨A.c_Put, dx, _, pm, upd_same, (fun z => nomatch z), rfl, rfl, rfl, SqT.of ((upd_ne n3).trans ((upd_ne n3).trans (kb _ _ n3 upd_same))), (all1 rfl)⟩⟩ ?_
    · refine ⟨by show 1 ≤ 1; decide, by show 1 ≤ 40; decide, by show 1 ≤ 1; decide, by show 1 ≤ 5; decide, by show 1 ≤ 1; decide, by show 1 ≤ 2; decide, fun r hr => ?_⟩
      rw [List.mem_singleton.mp hr]
      refine ⟨?_, (aln_app (aln_app (aln_app (aln_by (by decide +kernel)) hz0.2.1) (aln_by (by decide +kernel))) hz1.2.1)⟩
      simp only [app_length, l1, l2]
      omega
    · intro b o nb e
      rw [upd_ne nb, upd_ne nb]
      exact kb _ _ nb (sm _ _ e)
def spSwap (K : PySem.W.Frag) (A : Ads) : Sp := fun vs H Q _ => ∃ (a dx : Addr) (z0 z1 z2 : Str), vs = [.ref a, .str z0, .str z1, .str z2] ∧ H a = some (.ins A.c_Swap dx []) ∧ NameT z0 ∧ OperT z1 ∧ NameT z2 ∧ ∀ H', (StAt K A H' a ⟨2, 1, 1, [("swap " : Str) ++ z0 ++ (" " : Str) ++ z1 ++ (" into " : Str) ++ z2]⟩ [] [] ∧ StF K H' a ⟨some z0, some z2, [z1, z2], [("operand", z1)]⟩) → KeepBut a H H' → Q .non H'
theorem ok_Swap___init__ (T : Txt K mg A) : FnOk P w K mg base CX0 5 A.a_Swap___init__ A.d_Swap___init__ ["self", "cell", "operand", "into"] (spSwap K A) := by
  have nd := ss_Swap___init__.nd
  refine T.f_Swap___init__.ok ss_Swap___init__ (ar := _) rfl rfl rfl (fun vs H Q E h => ?_) (fun cdv A' outer s H vs Q E hr S h => ?_)
  · obtain ⟨a, dx, z0, z1, z2, rfl, _⟩ := h
    rfl
  · obtain ⟨a, dx, z0, z1, z2, rfl, ha, hz0, hz1, hz2, k⟩ := h
    have mem : A.c_Swap ∈ A.fam := List.mem_of_getElem? (show A.fam[2]? = some A.c_Swap from rfl)
    have fc := T.fam _ mem
    refine ⟨_, (psa_cons (ps_expr (pe_call (ok_check_name T) (hr.mono (by decide)) (by rfl) T.m_check_name T.k_check_name T.v_check_name .nil pass0 (pa_cons (pv 1) pa_nil)))
      (psa_cons (ps_expr (pe_call (ok_check_operand T) (hr.mono (by decide)) (by rfl) T.m_check_operand T.k_check_operand T.v_check_operand .nil pass0 (pa_cons (pv 2) pa_nil)))
      (psa_cons (ps_expr (pe_call (ok_check_name T) (hr.mono (by decide)) (by rfl) T.m_check_name T.k_check_name T.v_check_name .nil pass0 (pa_cons (pv 3) pa_nil)))
      (psa_sup S ((ok_Statement___init__ T).raw (dvs := [.ref A.x_Statement___init___1, .ref A.x_Statement___init___2]) T.vd_Statement___init___2 (.cons rfl (.cons rfl .nil))) (hr.mono (by decide)) pass0 (pa_cons (pe_fs (.cons pe_str (.cons (pe_fmt (pv 1)) (.cons pe_str (.cons (pe_fmt (pv 2)) (.cons pe_str (.cons (pe_fmt (pv 3)) .nil))))))) (pa_cons (pe_tup (pa_cons (pv 2) (pa_cons (pv 3) pa_nil))) pa_nil)) (psa_any (pss_cons (ps_fld (pv 0) (pv 1) rfl)
      (pss_cons (ps_fld (pv 0) (pv 2) rfl)
      (pss_one (ps_fld (pv 0) (pv 3) rfl))))) T.b_super T.fi_Statement___init__ T.ft_Statement___init__)))), ?_⟩
    refine ⟨_, rfl, .str z0, .str, rfl, hz0.th H, hz0.1, fun H1 s1 => ?_⟩
    have q1 := s1
    refine ⟨_, rfl, .str z1, .str, rfl, hz1.th H1, hz1.1, fun H2 s2 => ?_⟩
    have q2 := q1.trans s2
    refine ⟨_, rfl, .str z2, .str, rfl, hz2.th H2, hz2.1, fun H3 s3 => ?_⟩
    have q3 := q2.trans s3
    refine ⟨a, A.c_Swap, dx, [], rfl, q3 _ _ ha, T.slf _ mem, T.sup _ mem, fun q hq => ?_⟩
    have sq := q3.trans (same_new (o := .met A.a_Statement___init__ a) hq)
    have l0 : (Str.empty).length = 0 := rfl
    have l1 : (" " : Str).length = 1 := rfl
    have l2 : (" into " : Str).length = 6 := rfl
    have l3 : ("swap " : Str).length = 5 := rfl
    have mz0 := hz0.2.2
    have mz1 := hz1.2.2
    have mz2 := hz2.2.2
    refine ⟨("swap " : Str), rfl, (len5000 (by simp only [app_length, l0, l1, l2, l3]; omega)), _, rfl, Or.inl ⟨z0, rfl, len5000 (by omega), z0, rfl, (len5000 (by simp only [app_length, l0, l1, l2, l3]; omega)), (" " : Str), rfl, (len5000 (by simp only [app_length, l0, l1, l2, l3]; omega)), _, rfl, Or.inl ⟨z1, rfl, len5000 (by omega), z1, rfl, (len5000 (by simp only [app_length, l0, l1, l2, l3]; omega)), (" into " : Str), rfl, (len5000 (by simp only [app_length, l0, l1, l2, l3]; omega)), _, rfl, Or.inl ⟨z2, rfl, len5000 (by omega), z2, rfl, (len5000 (by simp only [app_length, l0, l1, l2, l3]; omega)), _, rfl, _, rfl, (by show 2 ≤ sizeLine; decide), fun pm hpm => ?_⟩⟩⟩⟩
    have sm := sq.trans (same_new (o := .tup [.str z1, .str z2]) hpm)
    have hm : (upd (upd H3 q (.met A.a_Statement___init__ a)) pm (.tup [.str z1, .str z2])) q = some (.met A.a_Statement___init__ a) := same_new hpm _ _ upd_same
    refine ⟨hm, a, A.c_Swap, dx, pm, A.x_Statement___init___1, A.x_Statement___init___2, _, [], [], rfl, mem, sm _ _ ha, T.e_Statement___init___1 _, T.e_Statement___init___2 _, fun _ h => (List.not_mem_nil h).elim, fun _ h => (List.not_mem_nil h).elim, by decide, by decide, ?_, ?_, fun ps pr H' h1 h2 h3 kb => ?_⟩
    · simp only [app_length, l0, l1, l2, l3]
      omega
    · exact (aln_app (aln_app (aln_app (aln_app (aln_app (aln_app (aln_by (by decide +kernel)) (aln_by (by decide +kernel))) hz0.2.1) (aln_by (by decide +kernel))) hz1.2.1) (aln_by (by decide +kernel))) hz2.2.1)
    rw [emp_app] at h3
    refine ⟨_, rfl, _, rfl, a, _, dx, _, rfl, h1, fc.cl, fc.na _ (by decide +kernel), (by show 7 < 1000; decide), ?_⟩
    refine ⟨_, rfl, _, rfl, a, _, dx, _, rfl, upd_same, fc.cl, fc.na _ (by decide +kernel), (by show 7 < 1000; decide), ?_⟩
    refine ⟨_, rfl, _, rfl, a, _, dx, _, rfl, upd_same, fc.cl, fc.na _ (by decide +kernel), (by show 8 < 1000; decide), ?_⟩
    have n1 : ps ≠ a := ne_of h2 h1 (by intro z; cases z)
    have n2 : pr ≠ a := ne_of h3 h1 (by intro z; cases z)
    have n3 : pm ≠ a := (ne_of_none (sq _ _ ha) hpm).symm
    refine k _ ⟨⟨A.c_Swap, dx, _, ps, pr, A.x_Statement___init___1, A.x_Statement___init___2, rfl, upd_same, rfl, (upd_ne n1).trans ((upd_ne n1).trans ((upd_ne n1).trans (h2))), rfl, (upd_ne n2).trans ((upd_ne n2).trans ((upd_ne n2).trans (h3))), rfl, T.e_Statement___init___1 _, rfl, T.e_Statement___init___2 _, rfl, ?_⟩, ⟨A.c_Swap, dx, _, pm, upd_same, (fun z => nomatch z), rfl, rfl, rfl, SqT.of ((upd_ne n3).trans ((upd_ne n3).trans ((upd_ne n3).trans (kb _ _ n3 upd_same)))), (all1 rfl)⟩⟩ ?_
    · refine ⟨by show 1 ≤ 1; decide, by show 1 ≤ 40; decide, by show 1 ≤ 1; decide, by show 1 ≤ 5; decide, by show 1 ≤ 1; decide, by show 1 ≤ 2; decide, fun r hr => ?_⟩
      rw [List.mem_singleton.mp hr]
      refine ⟨?_, (aln_app (aln_app (aln_app (aln_app (aln_app (aln_by (by decide +kernel)) hz0.2.1) (aln_by (by decide +kernel))) hz1.2.1) (aln_by (by decide +kernel))) hz2.2.1)⟩
      simp only [app_length, l1, l2, l3]
      omega
    · intro b o nb e
      rw [upd_ne nb, upd_ne nb, upd_ne nb]
      exact kb _ _ nb (sm _ _ e)
def spTry (K : PySem.W.Frag) (A : Ads) : Sp := fun vs H Q _ => ∃ (a dx : Addr) (z0 z1 z2 z3 : Str), vs = [.ref a, .str z0, .str z1, .str z2, .str z3] ∧ H a = some (.ins A.c_Try dx []) ∧ NameT z0 ∧ OperT z1 ∧ OperT z2 ∧ NameT z3 ∧ ∀ H', (StAt K A H' a ⟨3, 1, 1, [("try " : Str) ++ z0 ++ (" " : Str) ++ z1 ++ (" " : Str) ++ z2 ++ (" into " : Str) ++ z3]⟩ [] [] ∧ StF K H' a ⟨some z0, some z3, [z1, z2, z3], [("old", z1), ("new", z2)]⟩) → KeepBut a H H' → Q .non H'
theorem ok_Try___init__ (T : Txt K mg A) : FnOk P w K mg base CX0 5 A.a_Try___init__ A.d_Try___init__ ["self", "cell", "old", "new", "into"] (spTry K A) := by
  have nd := ss_Try___init__.nd
  refine T.f_Try___init__.ok ss_Try___init__ (ar := _) rfl rfl rfl (fun vs H Q E h => ?_) (fun cdv A' outer s H vs Q E hr S h => ?_)
  · obtain ⟨a, dx, z0, z1, z2, z3, rfl, _⟩ := h
    rfl
  · obtain ⟨a, dx, z0, z1, z2, z3, rfl, ha, hz0, hz1, hz2, hz3, k⟩ := h
    have mem : A.c_Try ∈ A.fam := List.mem_of_getElem? (show A.fam[3]? = some A.c_Try from rfl)
    have fc := T.fam _ mem
    refine ⟨_, (psa_cons (ps_expr (pe_call (ok_check_name T) (hr.mono (by decide)) (by rfl) T.m_check_name T.k_check_name T.v_check_name .nil pass0 (pa_cons (pv 1) pa_nil)))
      (psa_cons (ps_expr (pe_call (ok_check_operand T) (hr.mono (by decide)) (by rfl) T.m_check_operand T.k_check_operand T.v_check_operand .nil pass0 (pa_cons (pv 2) pa_nil)))
      (psa_cons (ps_expr (pe_call (ok_check_operand T) (hr.mono (by decide)) (by rfl) T.m_check_operand T.k_check_operand T.v_check_operand .nil pass0 (pa_cons (pv 3) pa_nil)))
      (psa_cons (ps_expr (pe_call (ok_check_name T) (hr.mono (by decide)) (by rfl) T.m_check_name T.k_check_name T.v_check_name .nil pass0 (pa_cons (pv 4) pa_nil)))
      (psa_sup S ((ok_Statement___init__ T).raw (dvs := [.ref A.x_Statement___init___1, .ref A.x_Statement___init___2]) T.vd_Statement___init___2 (.cons rfl (.cons rfl .nil))) (hr.mono (by decide)) pass0 (pa_cons (pe_fs (.cons pe_str (.cons (pe_fmt (pv 1)) (.cons pe_str (.cons (pe_fmt (pv 2)) (.cons pe_str (.cons (pe_fmt (pv 3)) (.cons pe_str (.cons (pe_fmt (pv 4)) .nil))))))))) (pa_cons (pe_tup (pa_cons (pv 2) (pa_cons (pv 3) (pa_cons (pv 4) pa_nil)))) pa_nil)) (psa_any (pss_cons (ps_fld (pv 0) (pv 1) rfl)
      (pss_cons (ps_fld (pv 0) (pv 2) rfl)
      (pss_cons (ps_fld (pv 0) (pv 3) rfl)
      (pss_one (ps_fld (pv 0) (pv 4) rfl)))))) T.b_super T.fi_Statement___init__ T.ft_Statement___init__))))), ?_⟩
    refine ⟨_, rfl, .str z0, .str, rfl, hz0.th H, hz0.1, fun H1 s1 => ?_⟩
    have q1 := s1
    refine ⟨_, rfl, .str z1, .str, rfl, hz1.th H1, hz1.1, fun H2 s2 => ?_⟩
    have q2 := q1.trans s2
    refine ⟨_, rfl, .str z2, .str, rfl, hz2.th H2, hz2.1, fun H3 s3 => ?_⟩
    have q3 := q2.trans s3
    refine ⟨_, rfl, .str z3, .str, rfl, hz3.th H3, hz3.1, fun H4 s4 => ?_⟩
    have q4 := q3.trans s4
    refine ⟨a, A.c_Try, dx, [], rfl, q4 _ _ ha, T.slf _ mem, T.sup _ mem, fun q hq => ?_⟩
    have sq := q4.trans (same_new (o := .met A.a_Statement___init__ a) hq)
    have l0 : (Str.empty).length = 0 := rfl
    have l1 : (" " : Str).length = 1 := rfl
    have l2 : (" into " : Str).length = 6 := rfl
    have l3 : ("try " : Str).length = 4 := rfl
    have mz0 := hz0.2.2
    have mz1 := hz1.2.2
    have mz2 := hz2.2.2
    have mz3 := hz3.2.2
    refine ⟨("try " : Str), rfl, (len5000 (by simp only [app_length, l0, l1, l2, l3]; omega)), _, rfl, Or.inl ⟨z0, rfl, len5000 (by omega), z0, rfl, (len5000 (by simp only [app_length, l0, l1, l2, l3]; omega)), (" " : Str), rfl, (len5000 (by simp only [app_length, l0, l1, l2, l3]; omega)), _, rfl, Or.inl ⟨z1, rfl, len5000 (by omega), z1, rfl, (len5000 (by simp only [app_length, l0, l1, l2, l3]; omega)), (" " : Str), rfl, (len5000 (by simp only [app_length, l0, l1, l2, l3]; omega)), _, rfl, Or.inl ⟨z2, rfl, len5000 (by omega), z2, rfl, (len5000 (by simp only [app_length, l0, l1, l2, l3]; omega)), (" into " : Str), rfl, (len5000 (by simp only [app_length, l0, l1, l2, l3]; omega)), _, rfl, Or.inl ⟨z3, rfl, len5000 (by omega), z3, rfl, (len5000 (by simp only [app_length, l0, l1, l2, l3]; omega)), _, rfl, _, rfl, _, rfl, (by show 3 ≤ sizeLine; decide), fun pm hpm => ?_⟩⟩⟩⟩⟩
    have sm := sq.trans (same_new (o := .tup [.str z1, .str z2, .str z3]) hpm)
    have hm : (upd (upd H4 q (.met A.a_Statement___init__ a)) pm (.tup [.str z1, .str z2, .str z3])) q = some (.met A.a_Statement___init__ a) := same_new hpm _ _ upd_same
    refine ⟨hm, a, A.c_Try, dx, pm, A.x_Statement___init___1, A.x_Statement___init___2, _, [], [], rfl, mem, sm _ _ ha, T.e_Statement___init___1 _, T.e_Statement___init___2 _, fun _ h => (List.not_mem_nil h).elim, fun _ h => (List.not_mem_nil h).elim, by decide, by decide, ?_, ?_, fun ps pr H' h1 h2 h3 kb => ?_⟩
    · simp only [app_length, l0, l1, l2, l3]
      omega
    · exact (aln_app (aln_app (aln_app (aln_app (aln_app (aln_app (aln_app (aln_app (aln_by (by decide +kernel)) (aln_by (by decide +kernel))) hz0.2.1) (aln_by (by decide +kernel))) hz1.2.1) (aln_by (by decide +kernel))) hz2.2.1) (aln_by (by decide +kernel))) hz3.2.1)
    rw [emp_app] at h3
    refine ⟨_, rfl, _, rfl, a, _, dx, _, rfl, h1, fc.cl, fc.na _ (by decide +kernel), (by show 7 < 1000; decide), ?_⟩
    refine ⟨_, rfl, _, rfl, a, _, dx, _, rfl, upd_same, fc.cl, fc.na _ (by decide +kernel), (by show 7 < 1000; decide), ?_⟩
    refine ⟨_, rfl, _, rfl, a, _, dx, _, rfl, upd_same, fc.cl, fc.na _ (by decide +kernel), (by show 8 < 1000; decide), ?_⟩
    refine ⟨_, rfl, _, rfl, a, _, dx, _, rfl, upd_same, fc.cl, fc.na _ (by decide +kernel), (by show 9 < 1000; decide), ?_⟩
    have n1 : ps ≠ a := ne_of h2 h1 (by intro z; cases z)
    have n2 : pr ≠ a := ne_of h3 h1 (by intro z; cases z)
    have n3 : pm ≠ a := (ne_of_none (sq _ _ ha) hpm).symm
    refine k _ ⟨⟨A.c_Try, dx, _, ps, pr, A.x_Statement___init___1, A.x_Statement___init___2, rfl, upd_same, rfl, (upd_ne n1).trans ((upd_ne n1).trans ((upd_ne n1).trans ((upd_ne n1).trans (h2)))), rfl, (upd_ne n2).trans ((upd_ne n2).trans ((upd_ne n2).trans ((upd_ne n2).trans (h3)))), rfl, T.e_Statement___init___1 _, rfl, T.e_Statement___init___2 _, rfl, ?_⟩, ⟨A.c_Try, dx, _, pm, upd_same, (fun z => nomatch z), rfl, rfl, rfl, SqT.of ((upd_ne n3).trans ((upd_ne n3).trans ((upd_ne n3).trans ((upd_ne n3).trans (kb _ _ n3 upd_same))))), (all2 rfl rfl)⟩⟩ ?_
    · refine ⟨by show 1 ≤ 1; decide, by show 1 ≤ 40; decide, by show 1 ≤ 1; decide, by show 1 ≤ 5; decide, by show 1 ≤ 1; decide, by show 1 ≤ 2; decide, fun r hr => ?_⟩
      rw [List.mem_singleton.mp hr]
      refine ⟨?_, (aln_app (aln_app (aln_app (aln_app (aln_app (aln_app (aln_app (aln_by (by decide +kernel)) hz0.2.1) (aln_by (by decide +kernel))) hz1.2.1) (aln_by (by decide +kernel))) hz2.2.1) (aln_by (by decide +kernel))) hz3.2.1)⟩
      simp only [app_length, l1, l2, l3]
      omega
    · intro b o nb e
      rw [upd_ne nb, upd_ne nb, upd_ne nb, upd_ne nb]
      exact kb _ _ nb (sm _ _ e)
def spLet (K : PySem.W.Frag) (A : Ads) : Sp := fun vs H Q _ => ∃ (a dx : Addr) (z0 z1 : Str), vs = [.ref a, .str z0, .str z1] ∧ H a = some (.ins A.c_Let dx []) ∧ NameT z0 ∧ OperT z1 ∧ ∀ H', (StAt K A H' a ⟨4, 1, 1, [("let " : Str) ++ z0 ++ (" " : Str) ++ z1]⟩ [] [] ∧ StF K H' a ⟨none, some z0, [z0, z1], [("operand", z1)]⟩) → KeepBut a H H' → Q .non H'
theorem ok_Let___init__ (T : Txt K mg A) : FnOk P w K mg base CX0 5 A.a_Let___init__ A.d_Let___init__ ["self", "into", "operand"] (spLet K A) := by
  have nd := ss_Let___init__.nd
  refine T.f_Let___init__.ok ss_Let___init__ (ar := _) rfl rfl rfl (fun vs H Q E h => ?_) (fun cdv A' outer s H vs Q E hr S h => ?_)
  · obtain ⟨a, dx, z0, z1, rfl, _⟩ := h
    rfl
  · obtain ⟨a, dx, z0, z1, rfl, ha, hz0, hz1, k⟩ := h
    have mem : A.c_Let ∈ A.fam := List.mem_of_getElem? (show A.fam[4]? = some A.c_Let from rfl)
    have fc := T.fam _ mem
    refine ⟨_, (psa_cons (ps_expr (pe_call (ok_check_name T) (hr.mono (by decide)) (by rfl) T.m_check_name T.k_check_name T.v_check_name .nil pass0 (pa_cons (pv 1) pa_nil)))
      (psa_cons (ps_expr (pe_call (ok_check_operand T) (hr.mono (by decide)) (by rfl) T.m_check_operand T.k_check_operand T.v_check_operand .nil pass0 (pa_cons (pv 2) pa_nil)))
      (psa_sup S ((ok_Statement___init__ T).raw (dvs := [.ref A.x_Statement___init___1, .ref A.x_Statement___init___2]) T.vd_Statement___init___2 (.cons rfl (.cons rfl .nil))) (hr.mono (by decide)) pass0 (pa_cons (pe_fs (.cons pe_str (.cons (pe_fmt (pv 1)) (.cons pe_str (.cons (pe_fmt (pv 2)) .nil))))) (pa_cons (pe_tup (pa_cons (pv 1) (pa_cons (pv 2) pa_nil))) pa_nil)) (psa_any (pss_cons (ps_fld (pv 0) (pv 1) rfl)
      (pss_one (ps_fld (pv 0) (pv 2) rfl)))) T.b_super T.fi_Statement___init__ T.ft_Statement___init__))), ?_⟩
    refine ⟨_, rfl, .str z0, .str, rfl, hz0.th H, hz0.1, fun H1 s1 => ?_⟩
    have q1 := s1
    refine ⟨_, rfl, .str z1, .str, rfl, hz1.th H1, hz1.1, fun H2 s2 => ?_⟩
    have q2 := q1.trans s2
    refine ⟨a, A.c_Let, dx, [], rfl, q2 _ _ ha, T.slf _ mem, T.sup _ mem, fun q hq => ?_⟩
    have sq := q2.trans (same_new (o := .met A.a_Statement___init__ a) hq)
    have l0 : (Str.empty).length = 0 := rfl
    have l1 : (" " : Str).length = 1 := rfl
    have l2 : ("let " : Str).length = 4 := rfl
    have mz0 := hz0.2.2
    have mz1 := hz1.2.2
    refine ⟨("let " : Str), rfl, (len5000 (by simp only [app_length, l0, l1, l2]; omega)), _, rfl, Or.inl ⟨z0, rfl, len5000 (by omega), z0, rfl, (len5000 (by simp only [app_length, l0, l1, l2]; omega)), (" " : Str), rfl, (len5000 (by simp only [app_length, l0, l1, l2]; omega)), _, rfl, Or.inl ⟨z1, rfl, len5000 (by omega), z1, rfl, (len5000 (by simp only [app_length, l0, l1, l2]; omega)), _, rfl, _, rfl, (by show 2 ≤ sizeLine; decide), fun pm hpm => ?_⟩⟩⟩
    have sm := sq.trans (same_new (o := .tup [.str z0, .str z1]) hpm)
    have hm : (upd (upd H2 q (.met A.a_Statement___init__ a)) pm (.tup [.str z0, .str z1])) q = some (.met A.a_Statement___init__ a) := same_new hpm _ _ upd_same
    refine ⟨hm, a, A.c_Let, dx, pm, A.x_Statement___init___1, A.x_Statement___init___2, _, [], [], rfl, mem, sm _ _ ha, T.e_Statement___init___1 _, T.e_Statement___init___2 _, fun _ h => (List.not_mem_nil h).elim, fun _ h => (List.not_mem_nil h).elim, by decide, by decide, ?_, ?_, fun ps pr H' h1 h2 h3 kb => ?_⟩
    · simp only [app_length, l0, l1, l2]
      omega
    · exact (aln_app (aln_app (aln_app (aln_app (aln_by (by decide +kernel)) (aln_by (by decide +kernel))) hz0.2.1) (aln_by (by decide +kernel))) hz1.2.1)
    rw [emp_app] at h3
    refine ⟨_, rfl, _, rfl, a, _, dx, _, rfl, h1, fc.cl, fc.na _ (by decide +kernel), (by show 7 < 1000; decide), ?_⟩
    refine ⟨_, rfl, _, rfl, a, _, dx, _, rfl, upd_same, fc.cl, fc.na _ (by decide +kernel), (by show 7 < 1000; decide), ?_⟩
    have n1 : ps ≠ a := ne_of h2 h1 (by intro z; cases z)
    have n2 : pr ≠ a := ne_of h3 h1 (by intro z; cases z)
    have n3 : pm ≠ a := (ne_of_none (sq _ _ ha) hpm).symm
    refine k _ ⟨⟨A.c_Let, dx, _, ps, pr, A.x_Statement___init___1, A.x_Statement___init___2, rfl, upd_same, rfl, (upd_ne n1).trans ((upd_ne n1).trans (h2)), rfl, (upd_ne n2).trans ((upd_ne n2).trans (h3)), rfl, T.e_Statement___init___1 _, rfl, T.e_Statement___init___2 _, rfl, ?_⟩, ⟨A.c_Let, dx, _, pm, upd_same, (fun z => nomatch z), rfl, rfl, rfl, SqT.of ((upd_ne n3).trans ((upd_ne n3).trans (kb _ _ n3 upd_same))), (all1 rfl)⟩⟩ ?_
    · refine ⟨by show 1 ≤ 1; decide, by show 1 ≤ 40; decide, by show 1 ≤ 1; decide, by show 1 ≤ 5; decide, by show 1 ≤ 1; decide, by show 1 ≤ 2; decide, fun r hr => ?_⟩
      rw [List.mem_singleton.mp hr]
      refine ⟨?_, (aln_app (aln_app (aln_app (aln_by (by decide +kernel)) hz0.2.1) (aln_by (by decide +kernel))) hz1.2.1)⟩
      simp only [app_length, l1, l2]
      omega
    · intro b o nb e
      rw [upd_ne nb, upd_ne nb]
      exact kb _ _ nb (sm _ _ e)
def spLeave (K : PySem.W.Frag) (A : Ads) : Sp := fun vs H Q _ => ∃ (a dx : Addr), vs = [.ref a] ∧ H a = some (.ins A.c_Leave dx []) ∧ ∀ H', (StAt K A H' a ⟨5, 1, 1, [("leave" : Str)]⟩ [] [] ∧ StF K H' a ⟨none, none, [], []⟩) → KeepBut a H H' → Q .non H'
theorem ok_Leave___init__ (T : Txt K mg A) : FnOk P w K mg base CX0 5 A.a_Leave___init__ A.d_Leave___init__ ["self"] (spLeave K A) := by
  have nd := ss_Leave___init__.nd
  refine T.f_Leave___init__.ok ss_Leave___init__ (ar := _) rfl rfl rfl (fun vs H Q E h => ?_) (fun cdv A' outer s H vs Q E hr S h => ?_)
  · obtain ⟨a, dx, rfl, _⟩ := h
    rfl
  · obtain ⟨a, dx, rfl, ha, k⟩ := h
    have mem : A.c_Leave ∈ A.fam := List.mem_of_getElem? (show A.fam[5]? = some A.c_Leave from rfl)
    have fc := T.fam _ mem
    refine ⟨_, (psa_sup S ((ok_Statement___init__ T).raw (dvs := [.ref A.x_Statement___init___0, .ref A.x_Statement___init___1, .ref A.x_Statement___init___2]) T.vd_Statement___init___1 (.cons rfl (.cons rfl (.cons rfl .nil)))) (hr.mono (by decide)) pass0 (pa_cons pe_str pa_nil) (psa_any pss_nil) T.b_super T.fi_Statement___init__ T.ft_Statement___init__), ?_⟩
    refine ⟨a, A.c_Leave, dx, [], rfl, (Same.refl H) _ _ ha, T.slf _ mem, T.sup _ mem, fun q hq => ?_⟩
    have sq := (Same.refl H).trans (same_new (o := .met A.a_Statement___init__ a) hq)
    have l0 : (Str.empty).length = 0 := rfl
    have l1 : ("leave" : Str).length = 5 := rfl
    have sm := sq
    have hm : (upd H q (.met A.a_Statement___init__ a)) q = some (.met A.a_Statement___init__ a) := upd_same
    refine ⟨hm, a, A.c_Leave, dx, A.x_Statement___init___0, A.x_Statement___init___1, A.x_Statement___init___2, _, [], [], rfl, mem, sm _ _ ha, T.e_Statement___init___1 _, T.e_Statement___init___2 _, fun _ h => (List.not_mem_nil h).elim, fun _ h => (List.not_mem_nil h).elim, by decide, by decide, ?_, ?_, fun ps pr H' h1 h2 h3 kb => ?_⟩
    · decide
    · exact aln_by (by decide +kernel)
    have n1 : ps ≠ a := ne_of h2 h1 (by intro z; cases z)
    have n2 : pr ≠ a := ne_of h3 h1 (by intro z; cases z)
    refine k _ ⟨⟨A.c_Leave, dx, _, ps, pr, A.x_Statement___init___1, A.x_Statement___init___2, rfl, h1, rfl, h2, rfl, h3, rfl, T.e_Statement___init___1 _, rfl, T.e_Statement___init___2 _, rfl, ?_⟩, ⟨A.c_Leave, dx, _, A.x_Statement___init___0, h1, (fun z => nomatch z), rfl, rfl, rfl, T.e_Statement___init___0 _, all0⟩⟩ ?_
    · refine ⟨by show 1 ≤ 1; decide, by show 1 ≤ 40; decide, by show 1 ≤ 1; decide, by show 1 ≤ 5; decide, by show 1 ≤ 1; decide, by show 1 ≤ 2; decide, fun r hr => ?_⟩
      rw [List.mem_singleton.mp hr]
      exact ⟨by decide, aln_by (by decide +kernel)⟩
    · intro b o nb e
      exact kb _ _ nb (sm _ _ e)
def spReturn (K : PySem.W.Frag) (A : Ads) : Sp := fun vs H Q _ => ∃ (a dx : Addr) (z0 : Str), vs = [.ref a, .str z0] ∧ H a = some (.ins A.c_Return dx []) ∧ OperT z0 ∧ ∀ H', (StAt K A H' a ⟨6, 1, 1, [("return " : Str) ++ z0]⟩ [] [] ∧ StF K H' a ⟨none, none, [z0], [("operand", z0)]⟩) → KeepBut a H H' → Q .non H'
theorem ok_Return___init__ (T : Txt K mg A) : FnOk P w K mg base CX0 5 A.a_Return___init__ A.d_Return___init__ ["self", "operand"] (spReturn K A) := by
  have nd := ss_Return___init__.nd
  refine T.f_Return___init__.ok ss_Return___init__ (ar := _) rfl rfl rfl (fun vs H Q E h => ?_) (fun cdv A' outer s H vs Q E hr S h => ?_)
  · obtain ⟨a, dx, z0, rfl, _⟩ := h
    rfl
  · obtain ⟨a, dx, z0, rfl, ha, hz0, k⟩ := h
    have mem : A.c_Return ∈ A.fam := List.mem_of_getElem? (show A.fam[6]? = some A.c_Return from rfl)
    have fc := T.fam _ mem
    refine ⟨_, (psa_cons (ps_expr (pe_call (ok_check_operand T) (hr.mono (by decide)) (by rfl) T.m_check_operand T.k_check_operand T.v_check_operand .nil pass0 (pa_cons (pv 1) pa_nil)))
      (psa_sup S ((ok_Statement___init__ T).raw (dvs := [.ref A.x_Statement___init___1, .ref A.x_Statement___init___2]) T.vd_Statement___init___2 (.cons rfl (.cons rfl .nil))) (hr.mono (by decide)) pass0 (pa_cons (pe_fs (.cons pe_str (.cons (pe_fmt (pv 1)) .nil))) (pa_cons (pe_tup (pa_cons (pv 1) pa_nil)) pa_nil)) (psa_any (pss_one (ps_fld (pv 0) (pv 1) rfl))) T.b_super T.fi_Statement___init__ T.ft_Statement___init__)), ?_⟩
    refine ⟨_, rfl, .str z0, .str, rfl, hz0.th H, hz0.1, fun H1 s1 => ?_⟩
    have q1 := s1
    refine ⟨a, A.c_Return, dx, [], rfl, q1 _ _ ha, T.slf _ mem, T.sup _ mem, fun q hq => ?_⟩
    have sq := q1.trans (same_new (o := .met A.a_Statement___init__ a) hq)
    have l0 : (Str.empty).length = 0 := rfl
    have l1 : ("return " : Str).length = 7 := rfl
    have mz0 := hz0.2.2
    refine ⟨("return " : Str), rfl, (len5000 (by simp only [app_length, l0, l1]; omega)), _, rfl, Or.inl ⟨z0, rfl, len5000 (by omega), z0, rfl, (len5000 (by simp only [app_length, l0, l1]; omega)), _, rfl, (by show 1 ≤ sizeLine; decide), fun pm hpm => ?_⟩⟩
    have sm := sq.trans (same_new (o := .tup [.str z0]) hpm)
    have hm : (upd (upd H1 q (.met A.a_Statement___init__ a)) pm (.tup [.str z0])) q = some (.met A.a_Statement___init__ a) := same_new hpm _ _ upd_same
    refine ⟨hm, a, A.c_Return, dx, pm, A.x_Statement___init___1, A.x_Statement___init___2, _, [], [], rfl, mem, sm _ _ ha, T.e_Statement___init___1 _, T.e_Statement___init___2 _, fun _ h => (List.not_mem_nil h).elim, fun _ h => (List.not_mem_nil h).elim, by decide, by decide, ?_, ?_, fun ps pr H' h1 h2 h3 kb => ?_⟩
    · simp only [app_length, l0, l1]
      omega
    · exact (aln_app (aln_app (aln_by (by decide +kernel)) (aln_by (by decide +kernel))) hz0.2.1)
    rw [emp_app] at h3
    refine ⟨_, rfl, _, rfl, a, _, dx, _, rfl, h1, fc.cl, fc.na _ (by decide +kernel), (by show 7 < 1000; decide), ?_⟩
    have n1 : ps ≠ a := ne_of h2 h1 (by intro z; cases z)
    have n2 : pr ≠ a := ne_of h3 h1 (by intro z; cases z)
    have n3 : pm ≠ a := (ne_of_none (sq _ _ ha) hpm).symm
    refine k _ ⟨⟨A.c_Return, dx, _, ps, pr, A.x_Statement___init___1, A.x_Statement___init___2, rfl, upd_same, rfl, (upd_ne n1).trans (h2), rfl, (upd_ne n2).trans (h3), rfl, T.e_Statement___init___1 _, rfl, T.e_Statement___init___2 _, rfl, ?_⟩, ⟨A.c_Return, dx, _, pm, upd_same, (fun z => nomatch z), rfl, rfl, rfl, SqT.of ((upd_ne n3).trans (kb _ _ n3 upd_same)), (all1 rfl)⟩⟩ ?_
    · refine ⟨by show 1 ≤ 1; decide, by show 1 ≤ 40; decide, by show 1 ≤ 1; decide, by show 1 ≤ 5; decide, by show 1 ≤ 1; decide, by show 1 ≤ 2; decide, fun r hr => ?_⟩
      rw [List.mem_singleton.mp hr]
      refine ⟨?_, (aln_app (aln_by (by decide +kernel)) hz0.2.1)⟩
      simp only [app_length, l1]
      omega
    · intro b o nb e
      rw [upd_ne nb]
      exact kb _ _ nb (sm _ _ e)
end
end K07
set_option Elab.async false
set_option linter.all false
set_option maxRecDepth 100000
set_option maxHeartbeats 4000000
namespace K07
open PySem PySem.Spec PyProof.Rows L2 Mo
/-! ### drawn names -/
/-- begins with a letter, all letters and figures, at most n signs -/
def WordS (z : Str) (n : Nat) : Prop := z.cps.toList.headD 0 ∈ lets ∧ (∀ c ∈ z.cps.toList, c ∈ sgns) ∧ 1 ≤ z.length ∧ z.length ≤ n
theorem lets_sgns {c : Nat} (h : c ∈ lets) : c ∈ sgns := by
  have e : lets.all (fun c => decide (c ∈ sgns)) = true := by decide +kernel
  exact of_decide_eq_true (List.all_eq_true.mp e c h)
theorem sgns_aln {c : Nat} (h : c ∈ sgns) : Aln c = true := by
  have e : sgns.all Aln = true := by decide +kernel
  exact List.all_eq_true.mp e c h
theorem WordS.one {c : Nat} (hc : c ∈ lets) : WordS ⟨#[c]⟩ 1 := by
  refine ⟨hc, fun d hd => ?_, Nat.le_refl _, Nat.le_refl _⟩
  have : d = c := by simpa using hd
  rw [this]
  exact lets_sgns hc
theorem headD_app {a b : List Nat} (h : a ≠ []) : (a ++ b).headD 0 = a.headD 0 := by
  cases a with
  | nil => exact absurd rfl h
  | cons x l => rfl
theorem cps_ne {z : Str} (h : 1 ≤ z.length) : z.cps.toList ≠ [] := by
  intro e
  have : z.length = z.cps.toList.length := Array.length_toList.symm
  rw [e] at this
  simp at this
  omega
theorem WordS.add {z : Str} {n m : Nat} (h : WordS z n) {y : Str} (hy : ∀ c ∈ y.cps.toList, c ∈ sgns) (hm : y.length ≤ m) : WordS (z ++ y) (n + m) := by
  obtain ⟨h1, h2, h3, h4⟩ := h
  refine ⟨?_, fun d hd => ?_, ?_, ?_⟩
  · rw [cps_app, headD_app (cps_ne h3)]
    exact h1
  · rw [cps_app] at hd
    exact (List.mem_append.mp hd).elim (h2 d) (hy d)
  · rw [app_length]
    omega
  · rw [app_length]
    omega
theorem WordS.le {z : Str} {n m : Nat} (h : WordS z n) (e : n ≤ m) : WordS z m := ⟨h.1, h.2.1, h.2.2.1, by have := h.2.2.2; omega⟩
theorem WordS.name {z : Str} (h : WordS z 8) (hf : fixedB z = false) : NameT z := by
  obtain ⟨h1, h2, h3, h4⟩ := h
  refine ⟨?_, fun c hc => sgns_aln (h2 c hc), h4⟩
  show nameB z = true
  unfold nameB
  rw [hf, decide_eq_true (show 0 < z.length by omega), decide_eq_true h4, decide_eq_true h1, List.all_eq_true.mpr fun c hc => decide_eq_true (h2 c hc)]
  rfl
theorem name_by {z : Str} (h : (nameB z && z.cps.toList.all Aln) = true) : NameT z := by
  rw [Bool.and_eq_true] at h
  refine ⟨h.1, fun c hc => List.all_eq_true.mp h.2 c hc, ?_⟩
  have h := h.1
  unfold nameB at h
  simp only [Bool.and_eq_true, decide_eq_true_eq] at h
  exact h.1.1.1.2
theorem NameT.word {z : Str} (h : NameT z) : WordS z 8 ∧ fixedB z = false := by
  have h1 : nameB z = true := h.1
  unfold nameB at h1
  simp only [Bool.and_eq_true, decide_eq_true_eq, Bool.not_eq_true'] at h1
  obtain ⟨⟨⟨⟨a, b⟩, c⟩, d⟩, e⟩ := h1
  exact ⟨⟨d, fun x hx => of_decide_eq_true (List.all_eq_true.mp e x hx), a, b⟩, c⟩
/-- the begin of a name and a z -/
theorem cut_z {z : Str} (h : NameT z) {d : Int} (d0 : 0 ≤ d) (d7 : d < 7) : NameT (cutS z none (some (1 + d)) ++ "z") := by
  obtain ⟨⟨h1, h2, h3, h4⟩, _⟩ := h.word
  have e : (cutS z none (some (1 + d))).cps.toList = (z.cps.toList).take (min (1 + d).toNat z.length) := by
    show ((z.cps.toList.drop 0).take ((if 1 + d < 0 then (1 + d + (z.length : Int)).toNat else min (1 + d).toNat z.length) - 0)).toArray.toList = _
    rw [if_neg (by omega)]
    simp
  obtain ⟨c, l, hcl⟩ : ∃ c l, z.cps.toList = c :: l := by
    cases hz : z.cps.toList with
    | nil => exact absurd hz (cps_ne h3)
    | cons c l => exact ⟨c, l, rfl⟩
  obtain ⟨n, hn⟩ : ∃ n, min (1 + d).toNat z.length = n + 1 := ⟨min (1 + d).toNat z.length - 1, by omega⟩
  have e2 : (cutS z none (some (1 + d))).cps.toList = c :: l.take n := by
    rw [e, hcl, hn]
    rfl
  have len : (cutS z none (some (1 + d))).length ≤ 7 := by
    show (cutS z none (some (1 + d))).cps.size ≤ 7
    rw [← Array.length_toList, e, List.length_take]
    omega
  have w : WordS (cutS z none (some (1 + d))) 7 := by
    refine ⟨?_, fun x hx => ?_, ?_, len⟩
    · rw [e2]
      rw [hcl] at h1
      exact h1
    · rw [e] at hx
      exact h2 x (List.mem_of_mem_take hx)
    · show 1 ≤ (cutS z none (some (1 + d))).cps.size
      rw [← Array.length_toList, e2]
      simp
  have ez : ("z" : Str).cps.toList = [122] := by decide +kernel
  refine (w.add (m := 1) (y := "z") ?_ (Nat.le_refl _)).name ?_
  · intro c hc
    rw [ez] at hc
    rw [List.mem_singleton.mp hc]
    decide +kernel
  · have no : ∀ y : Str, y.cps.toList.getLast? ≠ some 122 → (cutS z none (some (1 + d)) ++ "z") ≠ y := by
      intro y hy e
      apply hy
      rw [← e, cps_app, ez]
      simp
    unfold fixedB
    rw [decide_eq_false (no "nothing" (by decide +kernel)), decide_eq_false (no "yes" (by decide +kernel))]
    rfl
section
variable {w : World} {K : PySem.W.Frag} {mg : Str → Option Value} {base : Heap} {A : Ads}
def spWord : Sp := fun vs H Q _ => ∃ a : Addr, vs = [.ref a] ∧ Src H a ∧ ∀ (z : Str) (H' : Hp), NameT z → Src H' a → KeepBut a H H' → Q (.str z) H'
abbrev abc : Str := "abcdefghijklmnopqrstuvwxyz"
abbrev fixed16 : List Str := ["call", "look", "put", "swap", "try", "into", "let", "if", "is", "else", "loop", "leave", "return", "joined", "nothin", "yes1"]
theorem fixed_names : ∀ z ∈ fixed16, NameT z := by
  have h : fixed16.all (fun z => nameB z && z.cps.toList.all Aln) = true := by decide +kernel
  exact fun z hz => name_by (List.all_eq_true.mp h z hz)
theorem ok_law_word (T : Txt K mg A) : FnOk P w K mg base CX0 2 A.a_law_word A.d_law_word ["_law_source_here"] spWord := by
  have nd := sc_law_word.nd
  refine T.f_law_word.ok sc_law_word (fun vs H Q E h => ?_) (fun cdv A' outer s H vs Q E hr h => ?_)
  · obtain ⟨a, rfl, _⟩ := h
    rfl
  · obtain ⟨a, rfl, src, k⟩ := h
    refine ⟨_, (pss_cons (ps_set (i := 1) nd rfl (Or.inl rfl) (pe_lst (pa_cons pe_str (pa_cons pe_str (pa_cons pe_str (pa_cons pe_str (pa_cons pe_str (pa_cons pe_str (pa_cons pe_str (pa_cons pe_str (pa_cons pe_str (pa_cons pe_str (pa_cons pe_str (pa_cons pe_str pa_nil))))))))))))))
      (pss_cons (ps_set (i := 1) nd rfl (Or.inl rfl) (pe_op op_cat (pv 1) (pe_lst (pa_cons pe_str (pa_cons pe_str (pa_cons pe_str (pa_cons pe_str pa_nil)))))))
      (pss_cons (ps_if (pt_cmpR op_eq (pe_call (ok_law_take T) (hr.mono (by decide)) (by rfl) T.m_law_take T.k_law_take T.v_law_take .nil pass0 (pa_cons (pv 0) (pa_cons pe_int pa_nil))) pe_int (nomark _)) (pss_one (ps_ret (pe_ix ix_list (pv 1) (pe_call (ok_law_take T) (hr.mono (by decide)) (by rfl) T.m_law_take T.k_law_take T.v_law_take .nil pass0 (pa_cons (pv 0) (pa_cons pe_int pa_nil))) (fun _ _ => rfl)))) pss_nil)
      (pss_cons (ps_set (i := 2) nd rfl (Or.inl rfl) pe_str)
      (pss_cons (ps_set (i := 3) nd rfl (Or.inl rfl) (pe_ix ix_str (pv 2) (pe_call (ok_law_take T) (hr.mono (by decide)) (by rfl) T.m_law_take T.k_law_take T.v_law_take .nil pass0 (pa_cons (pv 0) (pa_cons pe_int pa_nil))) (fun _ _ => rfl)))
      (pss_cons (ps_for PassesOwn.never rfl (pi_range1 (by rfl) T.b_range (pa_cons (pe_call (ok_law_take T) (hr.mono (by decide)) (by rfl) T.m_law_take T.k_law_take T.v_law_take .nil pass0 (pa_cons (pv 0) (pa_cons pe_int pa_nil))) pa_nil)) (pg_name (i := 4) nd rfl (Or.inl rfl)) (pss_one (ps_set (i := 3) nd rfl (Or.inl rfl) (pe_op op_add_str (pv 3) (pe_ix ix_str (pe_op op_add_str (pv 2) pe_str) (pe_call (ok_law_take T) (hr.mono (by decide)) (by rfl) T.m_law_take T.k_law_take T.v_law_take .nil pass0 (pa_cons (pv 0) (pa_cons pe_int pa_nil))) (fun _ _ => rfl))))))
      (pss_one (ps_ret (pe_ifExp (pt_cmpR op_in_seq (pv 3) (pe_lst (pa_cons pe_str (pa_cons pe_str pa_nil))) (by rfl)) (pe_op op_add_str (pv 3) pe_str) (pv 3)))))))))), ?_⟩
    refine ⟨(by show 12 ≤ sizeLine; decide), fun p hp => ?_⟩
    have s1 := same_new (o := .lst ([.str "call", .str "look", .str "put", .str "swap", .str "try", .str "into", .str "let", .str "if", .str "is", .str "else", .str "loop", .str "leave"])) hp
    refine ⟨_, rfl, (by show 4 ≤ sizeLine; decide), fun p2 hp2 => ?_⟩
    have s2 := s1.trans (same_new (o := .lst [.str "return", .str "joined", .str "nothin", .str "yes1"]) hp2)
    refine ⟨p, p2, _, _, rfl, rfl, same_new hp2 _ _ upd_same, upd_same, (by show 16 ≤ sizeLine; decide), fun p3 hp3 => ?_⟩
    have s3 := s2.trans (same_new (o := .lst (fixed16.map V.str)) hp3)
    have src3 := src.same s3
    have n3 : p3 ≠ a := (src.same s2).fresh hp3
    refine ⟨_, rfl, a, _, rfl, src3, by decide, by decide, fun d H4 d0 d1 src4 kb4 => ⟨rfl, _, rfl, ?_⟩⟩
    refine ite2 (fun hd => ?_) (fun hd => ?_)
    · refine ⟨_, rfl, _, rfl, a, _, rfl, src4, by decide, by decide, fun e H5 e0 e1 src5 kb5 => ?_⟩
      obtain ⟨z, hz, hm⟩ := at_in (l := fixed16.map V.str) e0 e1
      obtain ⟨y, hy, rfl⟩ := List.mem_map.mp hm
      refine ⟨p3, _, e, _, rfl, rfl, SqL.of (kb5 _ _ n3 (kb4 _ _ n3 upd_same)), hz, ?_⟩
      exact k y H5 (fixed_names y hy) src5 ((KeepBut.of_same s3).trans (kb4.trans kb5))
    · refine ⟨_, rfl, _, rfl, a, _, rfl, src4, by decide, by decide, fun e H5 e0 e1 src5 kb5 => ?_⟩
      obtain ⟨c, hc, cl⟩ := at_in (l := lets) e0 (by rw [show (lets.length : Int) = 26 from by decide +kernel]; exact e1)
      refine ⟨abc, e, c, rfl, rfl, (by decide), hc, ?_⟩
      have kbs : KeepBut a H H5 := (KeepBut.of_same s3).trans (kb4.trans kb5)
      refine ⟨_, rfl, a, _, rfl, src5, by decide, by decide, fun f H6 f0 f1 src6 kb6 => ⟨f, rfl, by omega, by omega, for_range (lo := 0) (n := f.toNat) (fun i σ H7 => ∃ (z : Str) (v4 : Option V), σ = [some (.ref a), some (.ref p3), some (.str abc), some (.str z), v4] ∧ WordS z (1 + i) ∧ Src H7 a ∧ KeepBut a H H7) ⟨_, _, rfl, WordS.one cl, src6, kbs.trans kb6⟩ ?_ ?_⟩⟩
      · rintro i σ H7 hi ⟨z, v4, rfl, wz, src7, kb7⟩
        refine ⟨_, rfl, _, rfl, _, _, rfl, rfl, (by decide), _, rfl, a, _, rfl, src7, by decide, by decide, fun g H8 g0 g1 src8 kb8 => ?_⟩
        obtain ⟨c2, hc2, cl2⟩ := at_in (l := sgns) g0 (by rw [show (sgns.length : Int) = 36 from by decide +kernel]; exact g1)
        refine ⟨_, g, c2, rfl, rfl, (by decide), hc2, z, ⟨#[c2]⟩, rfl, rfl, ?_, ?_⟩
        · have := wz.2.2.2
          rw [one_length]
          exact len5000 (by omega)
        · refine ⟨_, _, rfl, wz.add (m := 1) (fun x hx => ?_) (Nat.le_refl _), src8, kb7.trans kb8⟩
          have : x = c2 := by simpa using hx
          rw [this]
          exact cl2
      · rintro σ H7 ⟨z, v4, rfl, wz, src7, kb7⟩
        have w8 : WordS z 8 := wz.le (by omega)
        refine ⟨_, rfl, (by show 2 ≤ sizeLine; decide), fun q hq => ⟨q, _, rfl, Or.inl (SqL.of upd_same), rfl, rfl, _, rfl, ?_⟩⟩
        have kq := kb7.trans (KeepBut.of_same (same_new (o := .lst [.str "nothing", .str "yes"]) hq))
        have srq := src7.same (same_new (o := .lst [.str "nothing", .str "yes"]) hq)
        have fx : inV (.str z) [.str "nothing", .str "yes"] = fixedB z := inV_fixed z
        refine ite2 (fun h2 => ?_) (fun h2 => ?_)
        · have h2 : inV (.str z) [.str "nothing", .str "yes"] = true := h2
          rw [fx] at h2
          unfold fixedB at h2
          have nm : NameT (z ++ "0") := by
            rcases Bool.or_eq_true_iff.mp h2 with h2 | h2
            · rw [of_decide_eq_true h2]
              exact name_by (by decide +kernel)
            · rw [of_decide_eq_true h2]
              exact name_by (by decide +kernel)
          refine ⟨_, rfl, z, "0", rfl, rfl, ?_, k _ _ nm srq kq⟩
          have := w8.2.2.2
          exact len5000 (by show z.length + 1 ≤ 5000; omega)
        · have h2 : ¬ inV (.str z) [.str "nothing", .str "yes"] = true := h2
          have h2 := Bool.eq_false_iff.mpr h2
          rw [fx] at h2
          exact ⟨_, rfl, k z _ (w8.name h2) srq kq⟩
def spWords : Sp := fun vs H Q _ => ∃ (a : Addr) (m : Int), vs = [.ref a, .int m] ∧ Src H a ∧ 0 ≤ m ∧ m ≤ 7 ∧
  ∀ (p : Addr) (zs : List Str) (H' : Hp), H p = none → H' p = some (.lst (zs.map V.str)) → (zs.length : Int) = m → (∀ z ∈ zs, NameT z) → zs.Nodup → Src H' a → KeepBut a H H' → Q (.ref p) H'
abbrev eight : List Str := ["a", "b", "c", "d", "e", "f", "g", "h"]
theorem eight_names : ∀ z ∈ eight, NameT z := by
  have h : eight.all (fun z => nameB z && z.cps.toList.all Aln) = true := by decide +kernel
  exact fun z hz => name_by (List.all_eq_true.mp h z hz)
theorem nodup_len : ∀ {a b : List Str}, a.Nodup → a ⊆ b → a.length ≤ b.length
  | [], b, _, _ => Nat.zero_le _
  | x :: a, b, nd, sub => by
    have nd := List.nodup_cons.mp nd
    have hx : x ∈ b := sub List.mem_cons_self
    have h : a ⊆ b.erase x := fun y hy => by
      have hy2 := sub (List.mem_cons_of_mem _ hy)
      refine (List.mem_erase_of_ne ?_).mpr hy2
      rintro rfl
      exact nd.1 hy
    have := nodup_len nd.2 h
    rw [List.length_erase_of_mem hx] at this
    have : 0 < b.length := List.length_pos_of_mem hx
    rw [List.length_cons]
    omega
theorem eight_left {zs : List Str} (h : zs.length ≤ 7) : eight.filter (fun z => !decide (z ∈ zs)) ≠ [] := by
  intro e
  have sub : eight ⊆ zs := by
    intro z hz
    have := List.filter_eq_nil_iff.mp e z hz
    simpa using this
  have nd : eight.Nodup := by decide +kernel
  have := nodup_len nd sub
  have e8 : eight.length = 8 := rfl
  omega
theorem ok_law_words (T : Txt K mg A) : FnOk P w K mg base CX0 3 A.a_law_words A.d_law_words ["_law_source_here", "_law_many"] spWords := by
  have nd := sc_law_words.nd
  refine T.f_law_words.ok sc_law_words (fun vs H Q E h => ?_) (fun cdv A' outer s H vs Q E hr h => ?_)
  · obtain ⟨a, m, rfl, _⟩ := h
    rfl
  · obtain ⟨a, m, rfl, src, m0, m7, k⟩ := h
    -- from the test of the item on
    have last : ∃ t, PSs (cxOf CX0 P w K mg base nm_law_words "_law_words" (defScope st_law_words) A.a_law_words cdv A' outer s H E).nox ((forBody (stAt (defBody st_law_words) 1)).drop 2) t ∧ ∀ (D : Ends) (f : Addr) (i : Nat) (z : Str) (zs : List Str) (H4 : Hp) (v3 v5 : Option V), i < 7 → f ≠ a → H f = none → zs.length = i → (∀ z ∈ zs, NameT z) → zs.Nodup → NameT z → Src H4 a →
        (∀ b o, b ≠ a → b ≠ f → H b = some o → H4 b = some o) → H4 f = some (.lst (zs.map V.str)) →
        (∀ (σ : L2.St) (H5 : Hp), (∃ (ys : List Str) (v3 v4 v5 : Option V), σ = [some (.ref a), some (.int m), some (.ref f), v3, v4, v5] ∧ ys.length = i + 1 ∧ (∀ z ∈ ys, NameT z) ∧ ys.Nodup ∧ Src H5 a ∧ (∀ b o, b ≠ a → b ≠ f → H b = some o → H5 b = some o) ∧ H5 f = some (.lst (ys.map V.str))) → D.nx σ H5) →
        t D [some (.ref a), some (.int m), some (.ref f), v3, some (.str z), v5] H4 := by
      refine ⟨_, (pss_cons (ps_if (pt_cmpR op_in_seq (pv 4) (pv 2) (by rfl)) (pss_one (ps_set (i := 4) nd rfl (Or.inl rfl) (pe_ix ix_list (pe_lc (own := [("_law_mate", 5)]) (g := gName 5) rfl nd (pi_list (pe_lst (pa_cons pe_str (pa_cons pe_str (pa_cons pe_str (pa_cons pe_str (pa_cons pe_str (pa_cons pe_str (pa_cons pe_str (pa_cons pe_str pa_nil)))))))))) (blkOk_by (N := nm_law_words) (sc := defScope st_law_words) (by decide +kernel)) (fun _ _ _ _ _ => (pg_name (i := 5) nd rfl (Or.inl rfl))) (fun _ _ _ _ _ => (pts_one (pt_cmpR (show OpR _ _ (rIn K true) from op_notIn_seq) (pv 5) (pv 2) (by rfl)))) (fun _ _ _ _ _ => (pv 5))) pe_int (fun _ _ => rfl)))) pss_nil)
      (pss_one (ps_expr (pe_bm PySem.F.plainAttrs_list PySem.F.slot_list_append PySem.F.type_list_append mt_append (pv 2) (pa_cons (pv 4) pa_nil))))), fun D f i z zs H4 v3 v5 i7 nf hfn lz nz dz hz src4 kp hf4 q => ?_⟩
      have fin : ∀ (y : Str) (H5 : Hp) (v3 v5 : Option V), Same H4 H5 → NameT y → y ∉ zs → D.nx [some (.ref a), some (.int m), some (.ref f), v3, some (.str y), v5] (upd H5 f (.lst (zs.map V.str ++ [.str y]))) := by
        intro y H5 v3 v5 s5 hy ny
        refine q _ _ ⟨zs ++ [y], _, _, _, rfl, by rw [List.length_append, lz]; rfl, fun x hx => ?_, ?_, (src4.same s5).upd nf, fun b o n1 n2 e => ?_, ?_⟩
        · rcases List.mem_append.mp hx with hx | hx
          · exact nz x hx
          · rw [List.mem_singleton.mp hx]
            exact hy
        · rw [List.nodup_append]
          refine ⟨dz, by simp, fun x hx w hw e => ?_⟩
          rw [List.mem_singleton.mp hw] at e
          rw [e] at hx
          exact ny hx
        · rw [upd_ne n2]
          exact s5 _ _ (kp _ _ n1 n2 e)
        · rw [upd_same, List.map_append]
          rfl
      refine ⟨_, rfl, _, rfl, f, zs.map V.str, rfl, Or.inl (SqL.of hf4), rfl, all_flat_strs zs, _, rfl, ?_⟩
      have iv := inV_strs z zs
      refine ite2 (fun hin => ?_) (fun hin => ?_)
      · refine ⟨(by show 8 ≤ sizeLine; decide), fun q1 hq1 => ⟨q1, rfl, ⟨_, SqL.of upd_same⟩, fun D2 hD2 => lc_list (K := K) (a := q1) (xs := eight.map V.str) (fun j H5 => Same (upd H4 q1 (.lst (eight.map V.str))) H5 ∧ H5 D2 = some (.lst (((eight.take j).filter (fun z => !decide (z ∈ zs))).map V.str))) ⟨same_new hD2, upd_same⟩ (fun j H5 _ h => SqL.of (h.1 _ _ upd_same)) ?_ ?_⟩⟩
        · rintro j x H5 hx ⟨s5, h5⟩
          rw [List.getElem?_map] at hx
          obtain ⟨y, hy, rfl⟩ := Option.map_eq_some_iff.mp hx
          have s45 := (same_new (o := .lst (eight.map V.str)) hq1).trans s5
          refine ⟨rfl, _, rfl, _, rfl, f, zs.map V.str, rfl, Or.inl (SqL.of (s45 _ _ hf4)), rfl, all_flat_strs zs, _, rfl, ?_⟩
          have iv := inV_strs y zs
          have tk : (eight.take (j + 1)).filter (fun z => !decide (z ∈ zs)) = (eight.take j).filter (fun z => !decide (z ∈ zs)) ++ (if y ∈ zs then [] else [y]) := by
            rw [List.take_add_one, hy, List.filter_append]
            congr 1
            by_cases e : y ∈ zs <;> simp [e]
          refine ite2 (fun h => ?_) (fun h => ?_)
          · have h : (!inV (.str y) (zs.map V.str)) = true := h
            rw [iv] at h
            have hn : y ∉ zs := by simpa using h
            refine ⟨_, rfl, _, h5, ?_, ?_, ?_⟩
            · rw [List.length_map]
              exact lt5000 (Nat.lt_of_le_of_lt (List.length_filter_le _ _) (by rw [List.length_take]; show min j 8 < 5000; omega))
            · intro b o e
              rw [upd_ne (ne_of_none e hD2)]
              exact s5 _ _ e
            · rw [upd_same, tk, if_neg hn, List.map_append]
              rfl
          · have h : ¬ (!inV (.str y) (zs.map V.str)) = true := h
            rw [iv] at h
            have hn : y ∈ zs := by simpa using h
            refine ⟨s5, ?_⟩
            rw [h5, tk, if_pos hn, List.append_nil]
        · rintro H5 ⟨s5, h5⟩
          have ne := eight_left (zs := zs) (by omega)
          obtain ⟨y, ys, ey⟩ : ∃ y ys, eight.filter (fun z => !decide (z ∈ zs)) = y :: ys := by
            cases e : eight.filter (fun z => !decide (z ∈ zs)) with
            | nil => exact absurd e ne
            | cons y ys => exact ⟨y, ys, rfl⟩
          have hy : y ∈ eight ∧ y ∉ zs := by
            have : y ∈ eight.filter (fun z => !decide (z ∈ zs)) := by rw [ey]; exact List.mem_cons_self
            have := List.mem_filter.mp this
            exact ⟨this.1, by simpa using this.2⟩
          rw [List.take_of_length_le (by decide), ey] at h5
          have s45 := (same_new (o := .lst (eight.map V.str)) hq1).trans s5
          refine ⟨D2, _, _, .str y, rfl, rfl, SqL.of h5, atI_nat (j := 0) rfl, ?_⟩
          refine ⟨_, rfl, Or.inl ⟨rfl, _, SqL.of (s45 _ _ hf4)⟩, _, rfl, f, _, _, rfl, rfl, s45 _ _ hf4, ?_, fin y H5 _ _ s45 (eight_names y hy.1) hy.2⟩
          rw [List.length_map]
          exact lt5000 (by omega)
      · have hin : ¬ inV (.str z) (zs.map V.str) = true := hin
        rw [iv] at hin
        have hn : z ∉ zs := by simpa using hin
        refine ⟨_, rfl, Or.inl ⟨rfl, _, SqL.of hf4⟩, _, rfl, f, _, _, rfl, rfl, hf4, ?_, fin z H4 _ _ (Same.refl _) hz hn⟩
        rw [List.length_map]
        exact lt5000 (by omega)
    obtain ⟨t2, D2, rest2⟩ := last
    refine ⟨_, (pss_cons (ps_set (i := 2) nd rfl (Or.inr rfl) (pe_lst pa_nil))
      (pss_cons (ps_for PassesOwn.never rfl (pi_range1 (by rfl) T.b_range (pa_cons (pv 1) pa_nil)) (pg_name (i := 3) nd rfl (Or.inl rfl)) (pss_cons (ps_set (i := 4) nd rfl (Or.inl rfl) (pe_call (ok_law_word T) (hr.mono (by decide)) (by rfl) T.m_law_word T.k_law_word T.v_law_word .nil pass0 (pa_cons (pv 0) pa_nil)))
      (pss_cons (ps_if (PW.pt (pw_and (pt_cmpR (op_neD hr.units) (pv 2) (pe_lst pa_nil) (nomark _)) (pw_and1 (pt_cmpR op_eq (pe_call (ok_law_take T) (hr.mono (by decide)) (by rfl) T.m_law_take T.k_law_take T.v_law_take .nil pass0 (pa_cons (pv 0) (pa_cons pe_int pa_nil))) pe_int (nomark _))))) (pss_one (ps_set (i := 4) nd rfl (Or.inl rfl) (pe_op op_add_str (pe_slice sl_str (pe_ix ix_list (pv 2) (pe_un un_neg pe_int) (fun _ _ => rfl)) po_none (po_some (pe_op op_add pe_int (pe_call (ok_law_take T) (hr.mono (by decide)) (by rfl) T.m_law_take T.k_law_take T.v_law_take .nil pass0 (pa_cons (pv 0) (pa_cons pe_int pa_nil)))))) pe_str))) pss_nil)
      D2)))
      (pss_one (ps_ret (pv 2))))), ?_⟩
    refine ⟨Nat.zero_le _, fun f hf => ?_⟩
    have nf : f ≠ a := src.fresh hf
    have s1 := same_new (o := .lst []) hf
    refine ⟨_, rfl, m, rfl, by omega, by omega, for_range (lo := 0) (n := m.toNat) (fun i σ H2 => ∃ (zs : List Str) (v3 v4 v5 : Option V), σ = [some (.ref a), some (.int m), some (.ref f), v3, v4, v5] ∧ zs.length = i ∧ (∀ z ∈ zs, NameT z) ∧ zs.Nodup ∧ Src H2 a ∧
      (∀ b o, b ≠ a → b ≠ f → H b = some o → H2 b = some o) ∧ H2 f = some (.lst (zs.map V.str))) ⟨[], _, _, _, rfl, rfl, fun _ h => (List.not_mem_nil h).elim, List.nodup_nil, src.same s1, fun b o _ _ e => s1 _ _ e, upd_same⟩ ?_ ?_⟩
    · rintro i σ H2 hi ⟨zs, v3, v4, v5, rfl, lz, nz, dz, src2, kp, hff⟩
      refine ⟨_, rfl, a, rfl, src2, fun z H3 hz src3 kb3 => ?_⟩
      have hf3 := kb3 _ _ nf hff
      have kp3 : ∀ b o, b ≠ a → b ≠ f → H b = some o → H3 b = some o := fun b o n1 n2 e => kb3 _ _ n1 (kp b o n1 n2 e)
      refine ⟨_, rfl, Nat.zero_le _, fun q hq => ⟨.list (zs.map PyData.str), .list [], .lst (SqL.of (same_new hq _ _ hf3)) (dp_strs zs), .lst (SqL.of upd_same) .nil, shaped_strs fun y hy => AlnT.asc (nz y hy).2.1, by decide +kernel, _, rfl, ?_⟩⟩
      have s4 := same_new (o := .lst []) hq
      have src4 := src3.same s4
      have hf4 := s4 _ _ hf3
      have kp4 : ∀ b o, b ≠ a → b ≠ f → H b = some o → (upd H3 q (.lst [])) b = some o := fun b o n1 n2 e => s4 _ _ (kp3 b o n1 n2 e)
      refine ite2 (fun hne => ?_) (fun hne => ?_)
      · refine ⟨_, rfl, a, _, rfl, src4, by decide, by decide, fun d H5 d0 d1 src5 kb5 => ⟨rfl, _, rfl, ?_⟩⟩
        have hf5 := kb5 _ _ nf hf4
        have kp5 : ∀ b o, b ≠ a → b ≠ f → H b = some o → H5 b = some o := fun b o n1 n2 e => kb5 _ _ n1 (kp4 b o n1 n2 e)
        refine ite2 (fun _ => ?_) (fun _ => ?_)
        · obtain ⟨ys, y, ey⟩ : ∃ ys y, zs = ys ++ [y] := by
            rcases List.eq_nil_or_concat zs with e | ⟨ys, y, e⟩
            · subst e
              exact absurd hne (by decide +kernel)
            · exact ⟨ys, y, by rw [e, List.concat_eq_append]⟩
          have hy := nz y (by rw [ey]; simp)
          refine ⟨_, rfl, _, rfl, f, _, _, .str y, rfl, rfl, SqL.of hf5, ?_, ?_⟩
          · rw [ey, List.map_append]
            exact atI_last _ _
          refine ⟨_, rfl, a, _, rfl, src5, by decide, by decide, fun e H6 e0 e1 src6 kb6 => ⟨_, _, rfl, rfl, _, rfl, y, rfl, len5000 (by have := hy.2.2; omega), ?_⟩⟩
          have nz' := cut_z hy e0 e1
          refine ⟨_, _, rfl, rfl, len5000 (by have := nz'.2.2; rw [app_length] at this; omega), ?_⟩
          exact rest2 _ f i _ zs H6 _ _ (by omega) nf hf lz nz dz nz' src6 (fun b o n1 n2 e => kb6 _ _ n1 (kp5 b o n1 n2 e)) (kb6 _ _ nf hf5) fun σ H5 h => h
        · exact rest2 _ f i z zs H5 _ _ (by omega) nf hf lz nz dz hz src5 kp5 hf5 fun σ H5 h => h
      · exact rest2 _ f i z zs _ _ _ (by omega) nf hf lz nz dz hz src4 kp4 hf4 fun σ H5 h => h
    · rintro σ H2 ⟨zs, v3, v4, v5, rfl, lz, nz, dz, src2, kp, hff⟩
      refine ⟨_, rfl, k f zs H2 hf hff (by omega) nz dz src2 ?_⟩
      exact fun b o hb e => kp b o hb (ne_of_none e hf) e
end
end K07
set_option Elab.async false
set_option linter.all false
set_option maxRecDepth 100000
set_option maxHeartbeats 4000000
namespace K07
open PySem PySem.Spec PyProof.Rows L2 Mo
/-! ### trees of one line: the number of the kind, the words, the line -/
inductive One : Nat → List Str → Str → Prop where
  | look {c i : Str} (hc : NameT c) (hi : NameT i) : One 0 ["look", c, i] ("look " ++ c ++ " into " ++ i)
  | put {c o : Str} (hc : NameT c) (ho : OperT o) : One 1 ["put", c, o] ("put " ++ c ++ " " ++ o)
  | swap {c o i : Str} (hc : NameT c) (ho : OperT o) (hi : NameT i) : One 2 ["swap", c, o, i] ("swap " ++ c ++ " " ++ o ++ " into " ++ i)
  | try_ {c o n i : Str} (hc : NameT c) (ho : OperT o) (hn : OperT n) (hi : NameT i) : One 3 ["try", c, o, n, i] ("try " ++ c ++ " " ++ o ++ " " ++ n ++ " into " ++ i)
  | let_ {i o : Str} (hi : NameT i) (ho : OperT o) : One 4 ["let", i, o] ("let " ++ i ++ " " ++ o)
  | leave : One 5 ["leave"] "leave"
  | ret {o : Str} (ho : OperT o) : One 6 ["return", o] ("return " ++ o)
theorem One.line_ok {k : Nat} {xs : List Str} {line : Str} (h : One k xs line) : line.length ≤ 200 ∧ AlnT line := by
  have l1 : ("look " : Str).length = 5 := rfl
  have l2 : (" into " : Str).length = 6 := rfl
  have l3 : ("put " : Str).length = 4 := rfl
  have l4 : (" " : Str).length = 1 := rfl
  have l5 : ("swap " : Str).length = 5 := rfl
  have l6 : ("try " : Str).length = 4 := rfl
  have l7 : ("let " : Str).length = 4 := rfl
  have l8 : ("return " : Str).length = 7 := rfl
  have a : ∀ {x : Str}, x.cps.toList.all Aln = true → AlnT x := aln_by
  cases h with
  | look hc hi =>
    have := hc.2.2
    have := hi.2.2
    exact ⟨by simp only [app_length, l1, l2]; omega, aln_app (aln_app (aln_app (a (by decide +kernel)) hc.2.1) (a (by decide +kernel))) hi.2.1⟩
  | put hc ho =>
    have := hc.2.2
    have := ho.2.2
    exact ⟨by simp only [app_length, l3, l4]; omega, aln_app (aln_app (aln_app (a (by decide +kernel)) hc.2.1) (a (by decide +kernel))) ho.2.1⟩
  | swap hc ho hi =>
    have := hc.2.2
    have := ho.2.2
    have := hi.2.2
    exact ⟨by simp only [app_length, l5, l4, l2]; omega, aln_app (aln_app (aln_app (aln_app (aln_app (a (by decide +kernel)) hc.2.1) (a (by decide +kernel))) ho.2.1) (a (by decide +kernel))) hi.2.1⟩
  | try_ hc ho hn hi =>
    have := hc.2.2
    have := ho.2.2
    have := hn.2.2
    have := hi.2.2
    exact ⟨by simp only [app_length, l6, l4, l2]; omega, aln_app (aln_app (aln_app (aln_app (aln_app (aln_app (aln_app (a (by decide +kernel)) hc.2.1) (a (by decide +kernel))) ho.2.1) (a (by decide +kernel))) hn.2.1) (a (by decide +kernel))) hi.2.1⟩
  | let_ hi ho =>
    have := hi.2.2
    have := ho.2.2
    exact ⟨by simp only [app_length, l7, l4]; omega, aln_app (aln_app (aln_app (a (by decide +kernel)) hi.2.1) (a (by decide +kernel))) ho.2.1⟩
  | leave => exact ⟨by decide, a (by decide +kernel)⟩
  | ret ho =>
    have := ho.2.2
    exact ⟨by simp only [app_length, l8]; omega, aln_app (a (by decide +kernel)) ho.2.1⟩
theorem join1 (y x : Str) : Txt.join y [x] = x := by rw [TL.join_eq]; rfl
theorem join2 (y x z : Str) : Txt.join y [x, z] = x ++ y ++ z := by rw [TL.join_eq]; rfl
theorem join3 (y x z u : Str) : Txt.join y [x, z, u] = x ++ y ++ (z ++ y ++ u) := by rw [TL.join_eq]; rfl
theorem join4 (y x z u v : Str) : Txt.join y [x, z, u, v] = x ++ y ++ (z ++ y ++ (u ++ y ++ v)) := by rw [TL.join_eq]; rfl
theorem app_assoc (x y z : Str) : x ++ y ++ z = x ++ (y ++ z) := str_ext (by simp only [cp, cps_app, List.append_assoc])
section
variable {w : World} {K : PySem.W.Frag} {mg : Str → Option Value} {base : Heap} {A : Ads}
theorem slX_ok {K : PySem.W.Frag} {H : Hp} {p : Addr} {xs : List V} {lo hi : Option Int} {Q : VK} (t : SqT K H p xs) (h : ∀ p1 H1, Same H H1 → SqT K H1 p1 (cutV xs lo hi) → Q (.ref p1) H1) : rSlX1 K (.ref p) lo hi H Q :=
  ⟨p, xs, rfl, t, fun e => h p H (Same.refl H) (by rw [e]; exact t), fun p1 ob hd hp => h p1 _ (same_new hp) (.inl (.inr ⟨ob, upd_same⟩))⟩
end
end K07
set_option Elab.async false
set_option linter.all false
set_option maxRecDepth 100000
set_option maxHeartbeats 4000000
namespace K07
open PySem PySem.Spec PyProof.Rows L2 Mo
/-! ### trees of statements -/
inductive Tr where
  | one (k : Nat) (xs : List Str) (line : Str)
  | cond (l r : Str) (b e : List Tr)
  | loop (b : List Tr)
  | joined (b : List Tr)
def Tr.inner : Tr → List Tr
  | .one _ _ _ => []
  | .cond _ _ b _ => b
  | .loop b => b
  | .joined b => b
def Tr.outer : Tr → List Tr
  | .cond _ _ _ e => e
  | _ => []
def Tr.line : Tr → Str
  | .one _ _ l => l
  | .cond l r _ _ => "if " ++ l ++ " is " ++ r
  | .loop _ => "loop"
  | .joined _ => "joined"
def Tr.k : Tr → Nat
  | .one k _ _ => k
  | .cond _ _ _ _ => 7
  | .loop _ => 8
  | .joined _ => 9
/-- its word -/
def Tr.word : Tr → Str
  | .one _ xs _ => xs.headD ""
  | .cond _ _ _ _ => "if"
  | .loop _ => "loop"
  | .joined _ => "joined"
/-- the rows behind an else -/
def elseR (e : List Tr) (rs : List Str) : List Str := match e with
  | [] => []
  | _ :: _ => ("else" : Str) :: ind rs
mutual
def rowsT : Tr → List Str
  | .one _ _ l => [l]
  | .cond l r b e => ("if " ++ l ++ " is " ++ r) :: (ind (rowsB b) ++ elseR e (rowsB e))
  | .loop b => ("loop" : Str) :: (ind (rowsB b) ++ [])
  | .joined b => ("joined" : Str) :: (ind (rowsB b) ++ [])
def rowsB : List Tr → List Str
  | [] => []
  | t :: ts => rowsT t ++ rowsB ts
end
mutual
def amT : Tr → Nat
  | .one _ _ _ => 1
  | .cond _ _ b e => 1 + (amB b + amB e)
  | .loop b => 1 + (amB b + 0)
  | .joined b => 1 + (amB b + 0)
def amB : List Tr → Nat
  | [] => 0
  | t :: ts => amT t + amB ts
end
mutual
def lvT : Tr → Nat
  | .one _ _ _ => 1
  | .cond _ _ b e => 1 + max (lvB b) (lvB e)
  | .loop b => 1 + max (lvB b) 0
  | .joined b => 1 + max (lvB b) 0
def lvB : List Tr → Nat
  | [] => 0
  | t :: ts => max (lvT t) (lvB ts)
end
theorem rowsT_eq (t : Tr) : rowsT t = t.line :: (ind (rowsB t.inner) ++ elseR t.outer (rowsB t.outer)) := by
  cases t <;> simp [rowsT, Tr.line, Tr.inner, Tr.outer, rowsB, elseR, ind]
theorem amT_eq (t : Tr) : amT t = 1 + (amB t.inner + amB t.outer) := by
  cases t <;> simp [amT, Tr.inner, Tr.outer, amB]
theorem lvT_eq (t : Tr) : lvT t = 1 + max (lvB t.inner) (lvB t.outer) := by
  cases t <;> simp [lvT, Tr.inner, Tr.outer, lvB]
theorem rowsB_nil : rowsB [] = [] := by simp [rowsB]
theorem rowsB_cons (t : Tr) (ts : List Tr) : rowsB (t :: ts) = rowsT t ++ rowsB ts := by rw [rowsB]
theorem amB_nil : amB [] = 0 := by simp [amB]
theorem amB_cons (t : Tr) (ts : List Tr) : amB (t :: ts) = amT t + amB ts := by rw [amB]
theorem lvB_nil : lvB [] = 0 := by simp [lvB]
theorem lvB_cons (t : Tr) (ts : List Tr) : lvB (t :: ts) = max (lvT t) (lvB ts) := by rw [lvB]
theorem rowsB_app : ∀ a b : List Tr, rowsB (a ++ b) = rowsB a ++ rowsB b
  | [], b => by rw [rowsB_nil]; rfl
  | t :: a, b => by rw [List.cons_append, rowsB_cons, rowsB_cons, rowsB_app a b, List.append_assoc]
theorem amB_app : ∀ a b : List Tr, amB (a ++ b) = amB a + amB b
  | [], b => by rw [amB_nil, Nat.zero_add]; rfl
  | t :: a, b => by rw [List.cons_append, amB_cons, amB_cons, amB_app a b, Nat.add_assoc]
theorem lvB_app : ∀ a b : List Tr, lvB (a ++ b) = max (lvB a) (lvB b)
  | [], b => by rw [lvB_nil]; simp
  | t :: a, b => by rw [List.cons_append, lvB_cons, lvB_cons, lvB_app a b]; omega
theorem lvT_pos (t : Tr) : 1 ≤ lvT t := by rw [lvT_eq]; omega
theorem amT_pos (t : Tr) : 1 ≤ amT t := by rw [amT_eq]; omega
theorem lvB_mem : ∀ {ts : List Tr} {t : Tr}, t ∈ ts → lvT t ≤ lvB ts
  | [], _, h => (List.not_mem_nil h).elim
  | u :: ts, t, h => by
    rw [lvB_cons]
    rcases List.mem_cons.mp h with rfl | h
    · omega
    · have := lvB_mem h
      omega
theorem amB_mem : ∀ {ts : List Tr} {t : Tr}, t ∈ ts → amT t ≤ amB ts
  | [], _, h => (List.not_mem_nil h).elim
  | u :: ts, t, h => by
    rw [amB_cons]
    rcases List.mem_cons.mp h with rfl | h
    · omega
    · have := amB_mem h
      omega
theorem amB_len : ∀ ts : List Tr, ts.length ≤ amB ts
  | [] => by simp
  | t :: ts => by
    have := amB_len ts
    have := amT_pos t
    rw [amB_cons, List.length_cons]
    omega
/-! ### trees as data of the program -/
mutual
inductive TrAt (K : PySem.W.Frag) (H : Hp) : Addr → Tr → Prop where
  | one {p : Addr} {k : Nat} {xs : List Str} {line : Str} (h : H p = some (.tup (xs.map V.str))) (o : One k xs line) : TrAt K H p (.one k xs line)
  | cond {p pb pe : Addr} {l r : Str} {b e : List Tr} {ps qs : List Addr} (h : H p = some (.tup [.str "if", .str l, .str r, .ref pb, .ref pe])) (hl : OperT l) (hr : OperT r) (hb : SqT K H pb (ps.map V.ref)) (he : SqT K H pe (qs.map V.ref)) (tb : TrsAt K H ps b) (te : TrsAt K H qs e) : TrAt K H p (.cond l r b e)
  | loop {p pb : Addr} {b : List Tr} {ps : List Addr} (h : H p = some (.tup [.str "loop", .ref pb])) (hb : SqT K H pb (ps.map V.ref)) (tb : TrsAt K H ps b) : TrAt K H p (.loop b)
  | joined {p pb : Addr} {b : List Tr} {ps : List Addr} (h : H p = some (.tup [.str "joined", .ref pb])) (hb : SqT K H pb (ps.map V.ref)) (tb : TrsAt K H ps b) : TrAt K H p (.joined b)
inductive TrsAt (K : PySem.W.Frag) (H : Hp) : List Addr → List Tr → Prop where
  | nil : TrsAt K H [] []
  | cons {p : Addr} {t : Tr} {ps : List Addr} {ts : List Tr} (h : TrAt K H p t) (r : TrsAt K H ps ts) : TrsAt K H (p :: ps) (t :: ts)
end
mutual
theorem TrAt.mv {K : PySem.W.Frag} {H H' : Hp} (k : KpT H H') : ∀ {p : Addr} {t : Tr}, TrAt K H p t → TrAt K H' p t
  | _, _, .one h o => .one (k.t _ _ h) o
  | _, _, .cond h hl hr hb he tb te => .cond (k.t _ _ h) hl hr (k.sq hb) (k.sq he) (TrsAt.mv k tb) (TrsAt.mv k te)
  | _, _, .loop h hb tb => .loop (k.t _ _ h) (k.sq hb) (TrsAt.mv k tb)
  | _, _, .joined h hb tb => .joined (k.t _ _ h) (k.sq hb) (TrsAt.mv k tb)
theorem TrsAt.mv {K : PySem.W.Frag} {H H' : Hp} (k : KpT H H') : ∀ {ps : List Addr} {ts : List Tr}, TrsAt K H ps ts → TrsAt K H' ps ts
  | _, _, .nil => .nil
  | _, _, .cons h r => .cons (TrAt.mv k h) (TrsAt.mv k r)
end
theorem TrsAt.len {K : PySem.W.Frag} {H : Hp} : ∀ {ps : List Addr} {ts : List Tr}, TrsAt K H ps ts → ps.length = ts.length
  | _, _, .nil => rfl
  | _, _, .cons _ r => congrArg Nat.succ (TrsAt.len r)
theorem TrsAt.get {K : PySem.W.Frag} {H : Hp} : ∀ {ps : List Addr} {ts : List Tr}, TrsAt K H ps ts → ∀ {i : Nat} {p : Addr}, ps[i]? = some p → ∃ t, ts[i]? = some t ∧ TrAt K H p t
  | _, _, .nil, i, p, h => by simp at h
  | _, _, .cons h r, 0, p, e => by
    cases e
    exact ⟨_, rfl, h⟩
  | _, _, .cons h r, i + 1, p, e => TrsAt.get r (i := i) e
theorem TrsAt.app {K : PySem.W.Frag} {H : Hp} : ∀ {ps qs : List Addr} {ts us : List Tr}, TrsAt K H ps ts → TrsAt K H qs us → TrsAt K H (ps ++ qs) (ts ++ us)
  | _, _, _, _, .nil, r => r
  | _, _, _, _, .cons h r, s => .cons h (TrsAt.app r s)
theorem TrsAt.take {K : PySem.W.Frag} {H : Hp} : ∀ {ps : List Addr} {ts : List Tr}, TrsAt K H ps ts → ∀ n, TrsAt K H (ps.take n) (ts.take n)
  | _, _, .nil, n => by simp; exact .nil
  | _, _, .cons h r, 0 => .nil
  | _, _, .cons h r, n + 1 => .cons h (TrsAt.take r n)
theorem TrsAt.drop {K : PySem.W.Frag} {H : Hp} : ∀ {ps : List Addr} {ts : List Tr}, TrsAt K H ps ts → ∀ n, TrsAt K H (ps.drop n) (ts.drop n)
  | _, _, .nil, n => by simp; exact .nil
  | _, _, .cons h r, 0 => .cons h r
  | _, _, .cons h r, n + 1 => TrsAt.drop r n
/-- a body at pb -/
def BodyAt (K : PySem.W.Frag) (H : Hp) (pb : Addr) (ts : List Tr) : Prop := ∃ ps : List Addr, SqT K H pb (ps.map V.ref) ∧ TrsAt K H ps ts
theorem BodyAt.mv {K : PySem.W.Frag} {H H' : Hp} {pb : Addr} {ts : List Tr} (h : BodyAt K H pb ts) (k : KpT H H') : BodyAt K H' pb ts := let ⟨ps, a, b⟩ := h; ⟨ps, k.sq a, b.mv k⟩
/-! ### statements made of trees -/
def fdT : Tr → Fd
  | .one k xs _ => fdO k xs
  | .cond l r _ _ => ⟨none, none, [l, r], [("left", l), ("right", r)]⟩
  | .loop _ => ⟨none, none, [], []⟩
  | .joined _ => ⟨none, none, [], []⟩
def sdT (t : Tr) : Sd := ⟨t.k, amT t, lvT t, rowsT t⟩
mutual
inductive StT (K : PySem.W.Frag) (A : Ads) (H : Hp) : Addr → Tr → Prop where
  | mk {q : Addr} {t : Tr} {bs os : List Addr} (s : StAt K A H q (sdT t) bs os) (f : StF K H q (fdT t)) (b : StsT K A H bs t.inner) (o : StsT K A H os t.outer) : StT K A H q t
inductive StsT (K : PySem.W.Frag) (A : Ads) (H : Hp) : List Addr → List Tr → Prop where
  | nil : StsT K A H [] []
  | cons {p : Addr} {t : Tr} {ps : List Addr} {ts : List Tr} (h : StT K A H p t) (r : StsT K A H ps ts) : StsT K A H (p :: ps) (t :: ts)
end
mutual
theorem StT.mv {K : PySem.W.Frag} {A : Ads} {H H' : Hp} (k : KpT H H') : ∀ {p : Addr} {t : Tr}, StT K A H p t → StT K A H' p t
  | _, _, .mk s f b o => .mk (s.mv k) (f.mv k) (StsT.mv k b) (StsT.mv k o)
theorem StsT.mv {K : PySem.W.Frag} {A : Ads} {H H' : Hp} (k : KpT H H') : ∀ {ps : List Addr} {ts : List Tr}, StsT K A H ps ts → StsT K A H' ps ts
  | _, _, .nil => .nil
  | _, _, .cons h r => .cons (StT.mv k h) (StsT.mv k r)
end
theorem StT.at {K : PySem.W.Frag} {A : Ads} {H : Hp} {q : Addr} {t : Tr} (h : StT K A H q t) : ∃ bs os, StAt K A H q (sdT t) bs os ∧ StsT K A H bs t.inner ∧ StsT K A H os t.outer := by
  cases h with
  | mk s _ b o => exact ⟨_, _, s, b, o⟩
theorem StsT.len {K : PySem.W.Frag} {A : Ads} {H : Hp} : ∀ {ps : List Addr} {ts : List Tr}, StsT K A H ps ts → ps.length = ts.length
  | _, _, .nil => rfl
  | _, _, .cons _ r => congrArg Nat.succ (StsT.len r)
theorem StsT.get {K : PySem.W.Frag} {A : Ads} {H : Hp} : ∀ {ps : List Addr} {ts : List Tr}, StsT K A H ps ts → ∀ {i : Nat} {p : Addr}, ps[i]? = some p → ∃ t, ts[i]? = some t ∧ StT K A H p t
  | _, _, .nil, i, p, h => by simp at h
  | _, _, .cons h r, 0, p, e => by
    cases e
    exact ⟨_, rfl, h⟩
  | _, _, .cons h r, i + 1, p, e => StsT.get r (i := i) e
theorem StsT.app {K : PySem.W.Frag} {A : Ads} {H : Hp} : ∀ {ps qs : List Addr} {ts us : List Tr}, StsT K A H ps ts → StsT K A H qs us → StsT K A H (ps ++ qs) (ts ++ us)
  | _, _, _, _, .nil, r => r
  | _, _, _, _, .cons h r, s => .cons h (StsT.app r s)
/-- as parts -/
def partsOf (ps : List Addr) (ts : List Tr) : List (Addr × Sd) := ps.zip (ts.map sdT)
theorem StsT.parts {K : PySem.W.Frag} {A : Ads} {H : Hp} : ∀ {ps : List Addr} {ts : List Tr}, StsT K A H ps ts → PartsAt K A H (partsOf ps ts)
  | _, _, .nil => fun q h => (List.not_mem_nil h).elim
  | _, _, .cons h r => by
    intro q hq
    rcases List.mem_cons.mp hq with rfl | hq
    · obtain ⟨bs, os, s, _, _⟩ := h.at
      exact ⟨bs, os, s⟩
    · exact StsT.parts r q hq
theorem StsT.sums {K : PySem.W.Frag} {A : Ads} {H : Hp} : ∀ {ps : List Addr} {ts : List Tr}, StsT K A H ps ts → refsOf (partsOf ps ts) = ps.map V.ref ∧ sumA (partsOf ps ts) = amB ts ∧ maxL (partsOf ps ts) = lvB ts ∧ flatR (partsOf ps ts) = rowsB ts ∧ (partsOf ps ts = [] ↔ ts = [])
  | _, _, .nil => by
    refine ⟨rfl, ?_, ?_, ?_, ?_⟩
    · rw [amB_nil]; rfl
    · rw [lvB_nil]; rfl
    · rw [rowsB_nil]; rfl
    · exact ⟨fun _ => rfl, fun _ => rfl⟩
  | p :: ps, t :: ts, .cons h r => by
    obtain ⟨h1, h2, h3, h4, _⟩ := StsT.sums r
    have e : partsOf (p :: ps) (t :: ts) = (p, sdT t) :: partsOf ps ts := rfl
    refine ⟨?_, ?_, ?_, ?_, ?_⟩
    · rw [e]
      show V.ref p :: refsOf (partsOf ps ts) = _
      rw [h1]
      rfl
    · rw [e, amB_cons, ← h2]
      simp [sumA, sdT]
    · rw [e, lvB_cons, ← h3]
      rfl
    · rw [e, rowsB_cons, ← h4]
      rfl
    · rw [e]
      constructor <;> intro z <;> cases z
end K07
set_option Elab.async false
set_option linter.all false
set_option maxRecDepth 100000
set_option maxHeartbeats 4000000
namespace K07
open PySem PySem.Spec PyProof.Rows L2 Mo
theorem cond_line {l r : Str} (hl : OperT l) (hr : OperT r) : ("if " ++ l ++ " is " ++ r : Str).length ≤ 200 ∧ AlnT ("if " ++ l ++ " is " ++ r) := by
  have l1 : ("if " : Str).length = 3 := rfl
  have l2 : (" is " : Str).length = 4 := rfl
  have := hl.2.2
  have := hr.2.2
  exact ⟨by simp only [app_length, l1, l2]; omega, aln_app (aln_app (aln_app (aln_by (by decide +kernel)) hl.2.1) (aln_by (by decide +kernel))) hr.2.1⟩
section
variable {w : World} {K : PySem.W.Frag} {mg : Str → Option Value} {base : Heap} {A : Ads}
def spHead (K : PySem.W.Frag) : Sp := fun vs H Q _ => ∃ (p : Addr) (t : Tr), vs = [.ref p] ∧ TrAt K H p t ∧ ∀ H', Same H H' → Q (.str t.line) H'
theorem ok_law_head (T : Txt K mg A) : FnOk P w K mg base CX0 1 A.a_law_head A.d_law_head ["_law_tree"] (spHead K) := by
  have nd := sc_law_head.nd
  refine T.f_law_head.ok sc_law_head (fun vs H Q E h => ?_) (fun cdv A' outer s H vs Q E hr h => ?_)
  · obtain ⟨p, t, rfl, _⟩ := h
    rfl
  · obtain ⟨p, t, rfl, tr, q⟩ := h
    refine ⟨_, (pss_cons (ps_if (pt_cmpR op_eq (pe_ix ix_tup (pv 0) pe_int (fun _ _ => rfl)) pe_str (nomark _)) (pss_one (ps_ret (pe_op op_add_str (pe_op op_add_str (pe_op op_add_str pe_str (pe_ix ix_tup (pv 0) pe_int (fun _ _ => rfl))) pe_str) (pe_ix ix_tup (pv 0) pe_int (fun _ _ => rfl))))) pss_nil)
      (pss_cons (ps_if (pt_cmpR op_in_seq (pe_ix ix_tup (pv 0) pe_int (fun _ _ => rfl)) (pe_lst (pa_cons pe_str (pa_cons pe_str pa_nil))) (by rfl)) (pss_one (ps_ret (pe_ix ix_tup (pv 0) pe_int (fun _ _ => rfl)))) pss_nil)
      (pss_cons (ps_if (pt_cmpR op_in_seq (pe_ix ix_tup (pv 0) pe_int (fun _ _ => rfl)) (pe_lst (pa_cons pe_str (pa_cons pe_str (pa_cons pe_str pa_nil)))) (by rfl)) (pss_one (ps_ret (pe_op op_add_str (pe_op op_add_str (pe_join pe_str (pe_callTy call_list_of (by rfl) T.b_list (by decide +kernel) (pa_cons (pe_slice sl_tupX (pv 0) po_none (po_some (pe_un un_neg pe_int))) pa_nil))) pe_str) (pe_ix ix_tup (pv 0) (pe_un un_neg pe_int) (fun _ _ => rfl))))) pss_nil)
      (pss_one (ps_ret (pe_join pe_str (pe_callTy call_list_of (by rfl) T.b_list (by decide +kernel) (pa_cons (pv 0) pa_nil)))))))), ?_⟩
    cases tr with
    | @cond _ pb pe l r b e ps qs hp hl hr' hb he tb te =>
      have hq : SqT K H p [.str "if", .str l, .str r, .ref pb, .ref pe] := SqT.of hp
      have lo := (cond_line hl hr').1
      rw [app_length, app_length, app_length] at lo
      refine ⟨_, rfl, p, _, _, _, rfl, rfl, hq, atI_nat (j := 0) rfl, rfl, _, rfl, ?_⟩
      refine ⟨_, rfl, p, _, _, _, rfl, rfl, hq, atI_nat (j := 1) rfl, _, _, rfl, rfl, len5000 (by omega), _, _, rfl, rfl, len5000 (by rw [app_length]; omega), _, rfl, p, _, _, _, rfl, rfl, hq, atI_nat (j := 2) rfl, _, _, rfl, rfl, len5000 (by rw [app_length, app_length]; omega), q H (Same.refl H)⟩
    | @loop _ pb b ps hp hb tb =>
      have hq : SqT K H p [.str "loop", .ref pb] := SqT.of hp
      refine ⟨_, rfl, p, _, _, _, rfl, rfl, hq, atI_nat (j := 0) rfl, rfl, _, rfl, ?_⟩
      refine ⟨_, rfl, p, _, _, _, rfl, rfl, hq, atI_nat (j := 0) rfl, (by show 2 ≤ sizeLine; decide), fun q1 n1 => ⟨q1, _, rfl, Or.inl (SqL.of upd_same), rfl, rfl, _, rfl, ?_⟩⟩
      have s1 := same_new (o := .lst [.str "loop", .str "joined"]) n1
      exact ⟨_, rfl, p, _, _, _, rfl, rfl, (KpT.of_same s1).sq hq, atI_nat (j := 0) rfl, q _ s1⟩
    | @joined _ pb b ps hp hb tb =>
      have hq : SqT K H p [.str "joined", .ref pb] := SqT.of hp
      refine ⟨_, rfl, p, _, _, _, rfl, rfl, hq, atI_nat (j := 0) rfl, rfl, _, rfl, ?_⟩
      refine ⟨_, rfl, p, _, _, _, rfl, rfl, hq, atI_nat (j := 0) rfl, (by show 2 ≤ sizeLine; decide), fun q1 n1 => ⟨q1, _, rfl, Or.inl (SqL.of upd_same), rfl, rfl, _, rfl, ?_⟩⟩
      have s1 := same_new (o := .lst [.str "loop", .str "joined"]) n1
      exact ⟨_, rfl, p, _, _, _, rfl, rfl, (KpT.of_same s1).sq hq, atI_nat (j := 0) rfl, q _ s1⟩
    | @one _ k xs line hp one =>
    have q : ∀ H', Same H H' → Q (.str line) H' := q
    have lo := one.line_ok
    have hq : SqT K H p (xs.map V.str) := SqT.of hp
    have lsp : (" " : Str).length = 1 := rfl
    cases one with
    | @look c i hc hi =>
      refine ⟨_, rfl, p, _, _, _, rfl, rfl, hq, atI_nat (j := 0) rfl, rfl, _, rfl, ?_⟩
      refine ⟨_, rfl, p, _, _, _, rfl, rfl, hq, atI_nat (j := 0) rfl, (by show 2 ≤ sizeLine; decide), fun q1 n1 => ⟨q1, _, rfl, Or.inl (SqL.of upd_same), rfl, rfl, _, rfl, ?_⟩⟩
      have s1 := same_new (o := .lst [.str "loop", .str "joined"]) n1
      refine ⟨_, rfl, p, _, _, _, rfl, rfl, (KpT.of_same s1).sq hq, atI_nat (j := 0) rfl, (by show 3 ≤ sizeLine; decide), fun q2 n2 => ⟨q2, _, rfl, Or.inl (SqL.of upd_same), rfl, rfl, _, rfl, ?_⟩⟩
      have s2 := s1.trans (same_new (o := .lst [.str "look", .str "swap", .str "try"]) n2)
      have := hc.2.2
      have := hi.2.2
      have lw : ("look" : Str).length = 4 := rfl
      have wd : ("look " : Str) = "look" ++ " " := str_ext (by decide +kernel)
      have e : Txt.join " " ["look", c] ++ " into " ++ i = ("look " : Str) ++ c ++ " into " ++ i := by
        rw [join2, wd]
        try simp only [app_assoc]
      have ll := lo.1
      rw [← e, app_length, app_length] at ll
      refine ⟨⟨_, rfl⟩, _, rfl, 1, rfl, -1, rfl, slX_ok ((KpT.of_same s2).sq hq) fun p1 H3 s3 h3 => ?_⟩
      refine ⟨p1, _, rfl, .inr h3, fun l hl => ⟨" ", l, ["look", c], rfl, rfl, .inl (SqL.of upd_same), by simp only [List.map_cons, List.map_nil, List.sum_cons, List.sum_nil, List.length_cons, List.length_nil, lw, lsp]; omega, ?_⟩⟩
      have s4 := (s2.trans s3).trans (same_new (o := .lst ((["look", c] : List Str).map V.str)) hl)
      refine ⟨_, _, rfl, rfl, len5000 (by omega), _, rfl, 1, rfl, p, _, _, _, rfl, rfl, (KpT.of_same s4).sq hq, rfl, _, _, rfl, rfl, len5000 (by rw [app_length]; omega), ?_⟩
      have r := q _ s4
      rw [← e] at r
      exact r
    | @put c o hc ho =>
      refine ⟨_, rfl, p, _, _, _, rfl, rfl, hq, atI_nat (j := 0) rfl, rfl, _, rfl, ?_⟩
      refine ⟨_, rfl, p, _, _, _, rfl, rfl, hq, atI_nat (j := 0) rfl, (by show 2 ≤ sizeLine; decide), fun q1 n1 => ⟨q1, _, rfl, Or.inl (SqL.of upd_same), rfl, rfl, _, rfl, ?_⟩⟩
      have s1 := same_new (o := .lst [.str "loop", .str "joined"]) n1
      refine ⟨_, rfl, p, _, _, _, rfl, rfl, (KpT.of_same s1).sq hq, atI_nat (j := 0) rfl, (by show 3 ≤ sizeLine; decide), fun q2 n2 => ⟨q2, _, rfl, Or.inl (SqL.of upd_same), rfl, rfl, _, rfl, ?_⟩⟩
      have s2 := s1.trans (same_new (o := .lst [.str "look", .str "swap", .str "try"]) n2)
      have := hc.2.2
      have := ho.2.2
      have lw : ("put" : Str).length = 3 := rfl
      have wd : ("put " : Str) = "put" ++ " " := str_ext (by decide +kernel)
      have e : Txt.join " " ["put", c, o] = ("put " : Str) ++ c ++ " " ++ o := by
        rw [join3, wd]
        try simp only [app_assoc]
      refine ⟨⟨_, rfl⟩, _, rfl, p, _, rfl, .inr ((KpT.of_same s2).sq hq), fun l hl => ⟨" ", l, ["put", c, o], rfl, rfl, .inl (SqL.of upd_same), by simp only [List.map_cons, List.map_nil, List.sum_cons, List.sum_nil, List.length_cons, List.length_nil, lw, lsp]; omega, ?_⟩⟩
      have r := q _ (s2.trans (same_new (o := .lst ((["put", c, o] : List Str).map V.str)) hl))
      rw [← e] at r
      exact r
    | @swap c o i hc ho hi =>
      refine ⟨_, rfl, p, _, _, _, rfl, rfl, hq, atI_nat (j := 0) rfl, rfl, _, rfl, ?_⟩
      refine ⟨_, rfl, p, _, _, _, rfl, rfl, hq, atI_nat (j := 0) rfl, (by show 2 ≤ sizeLine; decide), fun q1 n1 => ⟨q1, _, rfl, Or.inl (SqL.of upd_same), rfl, rfl, _, rfl, ?_⟩⟩
      have s1 := same_new (o := .lst [.str "loop", .str "joined"]) n1
      refine ⟨_, rfl, p, _, _, _, rfl, rfl, (KpT.of_same s1).sq hq, atI_nat (j := 0) rfl, (by show 3 ≤ sizeLine; decide), fun q2 n2 => ⟨q2, _, rfl, Or.inl (SqL.of upd_same), rfl, rfl, _, rfl, ?_⟩⟩
      have s2 := s1.trans (same_new (o := .lst [.str "look", .str "swap", .str "try"]) n2)
      have := hc.2.2
      have := ho.2.2
      have := hi.2.2
      have lw : ("swap" : Str).length = 4 := rfl
      have wd : ("swap " : Str) = "swap" ++ " " := str_ext (by decide +kernel)
      have e : Txt.join " " ["swap", c, o] ++ " into " ++ i = ("swap " : Str) ++ c ++ " " ++ o ++ " into " ++ i := by
        rw [join3, wd]
        try simp only [app_assoc]
      have ll := lo.1
      rw [← e, app_length, app_length] at ll
      refine ⟨⟨_, rfl⟩, _, rfl, 1, rfl, -1, rfl, slX_ok ((KpT.of_same s2).sq hq) fun p1 H3 s3 h3 => ?_⟩
      refine ⟨p1, _, rfl, .inr h3, fun l hl => ⟨" ", l, ["swap", c, o], rfl, rfl, .inl (SqL.of upd_same), by simp only [List.map_cons, List.map_nil, List.sum_cons, List.sum_nil, List.length_cons, List.length_nil, lw, lsp]; omega, ?_⟩⟩
      have s4 := (s2.trans s3).trans (same_new (o := .lst ((["swap", c, o] : List Str).map V.str)) hl)
      refine ⟨_, _, rfl, rfl, len5000 (by omega), _, rfl, 1, rfl, p, _, _, _, rfl, rfl, (KpT.of_same s4).sq hq, rfl, _, _, rfl, rfl, len5000 (by rw [app_length]; omega), ?_⟩
      have r := q _ s4
      rw [← e] at r
      exact r
    | @try_ c o n i hc ho hn hi =>
      refine ⟨_, rfl, p, _, _, _, rfl, rfl, hq, atI_nat (j := 0) rfl, rfl, _, rfl, ?_⟩
      refine ⟨_, rfl, p, _, _, _, rfl, rfl, hq, atI_nat (j := 0) rfl, (by show 2 ≤ sizeLine; decide), fun q1 n1 => ⟨q1, _, rfl, Or.inl (SqL.of upd_same), rfl, rfl, _, rfl, ?_⟩⟩
      have s1 := same_new (o := .lst [.str "loop", .str "joined"]) n1
      refine ⟨_, rfl, p, _, _, _, rfl, rfl, (KpT.of_same s1).sq hq, atI_nat (j := 0) rfl, (by show 3 ≤ sizeLine; decide), fun q2 n2 => ⟨q2, _, rfl, Or.inl (SqL.of upd_same), rfl, rfl, _, rfl, ?_⟩⟩
      have s2 := s1.trans (same_new (o := .lst [.str "look", .str "swap", .str "try"]) n2)
      have := hc.2.2
      have := ho.2.2
      have := hn.2.2
      have := hi.2.2
      have lw : ("try" : Str).length = 3 := rfl
      have wd : ("try " : Str) = "try" ++ " " := str_ext (by decide +kernel)
      have e : Txt.join " " ["try", c, o, n] ++ " into " ++ i = ("try " : Str) ++ c ++ " " ++ o ++ " " ++ n ++ " into " ++ i := by
        rw [join4, wd]
        try simp only [app_assoc]
      have ll := lo.1
      rw [← e, app_length, app_length] at ll
      refine ⟨⟨_, rfl⟩, _, rfl, 1, rfl, -1, rfl, slX_ok ((KpT.of_same s2).sq hq) fun p1 H3 s3 h3 => ?_⟩
      refine ⟨p1, _, rfl, .inr h3, fun l hl => ⟨" ", l, ["try", c, o, n], rfl, rfl, .inl (SqL.of upd_same), by simp only [List.map_cons, List.map_nil, List.sum_cons, List.sum_nil, List.length_cons, List.length_nil, lw, lsp]; omega, ?_⟩⟩
      have s4 := (s2.trans s3).trans (same_new (o := .lst ((["try", c, o, n] : List Str).map V.str)) hl)
      refine ⟨_, _, rfl, rfl, len5000 (by omega), _, rfl, 1, rfl, p, _, _, _, rfl, rfl, (KpT.of_same s4).sq hq, rfl, _, _, rfl, rfl, len5000 (by rw [app_length]; omega), ?_⟩
      have r := q _ s4
      rw [← e] at r
      exact r
    | @let_ i o hi ho =>
      refine ⟨_, rfl, p, _, _, _, rfl, rfl, hq, atI_nat (j := 0) rfl, rfl, _, rfl, ?_⟩
      refine ⟨_, rfl, p, _, _, _, rfl, rfl, hq, atI_nat (j := 0) rfl, (by show 2 ≤ sizeLine; decide), fun q1 n1 => ⟨q1, _, rfl, Or.inl (SqL.of upd_same), rfl, rfl, _, rfl, ?_⟩⟩
      have s1 := same_new (o := .lst [.str "loop", .str "joined"]) n1
      refine ⟨_, rfl, p, _, _, _, rfl, rfl, (KpT.of_same s1).sq hq, atI_nat (j := 0) rfl, (by show 3 ≤ sizeLine; decide), fun q2 n2 => ⟨q2, _, rfl, Or.inl (SqL.of upd_same), rfl, rfl, _, rfl, ?_⟩⟩
      have s2 := s1.trans (same_new (o := .lst [.str "look", .str "swap", .str "try"]) n2)
      have := hi.2.2
      have := ho.2.2
      have lw : ("let" : Str).length = 3 := rfl
      have wd : ("let " : Str) = "let" ++ " " := str_ext (by decide +kernel)
      have e : Txt.join " " ["let", i, o] = ("let " : Str) ++ i ++ " " ++ o := by
        rw [join3, wd]
        try simp only [app_assoc]
      refine ⟨⟨_, rfl⟩, _, rfl, p, _, rfl, .inr ((KpT.of_same s2).sq hq), fun l hl => ⟨" ", l, ["let", i, o], rfl, rfl, .inl (SqL.of upd_same), by simp only [List.map_cons, List.map_nil, List.sum_cons, List.sum_nil, List.length_cons, List.length_nil, lw, lsp]; omega, ?_⟩⟩
      have r := q _ (s2.trans (same_new (o := .lst ((["let", i, o] : List Str).map V.str)) hl))
      rw [← e] at r
      exact r
    | leave =>
      refine ⟨_, rfl, p, _, _, _, rfl, rfl, hq, atI_nat (j := 0) rfl, rfl, _, rfl, ?_⟩
      refine ⟨_, rfl, p, _, _, _, rfl, rfl, hq, atI_nat (j := 0) rfl, (by show 2 ≤ sizeLine; decide), fun q1 n1 => ⟨q1, _, rfl, Or.inl (SqL.of upd_same), rfl, rfl, _, rfl, ?_⟩⟩
      have s1 := same_new (o := .lst [.str "loop", .str "joined"]) n1
      refine ⟨_, rfl, p, _, _, _, rfl, rfl, (KpT.of_same s1).sq hq, atI_nat (j := 0) rfl, (by show 3 ≤ sizeLine; decide), fun q2 n2 => ⟨q2, _, rfl, Or.inl (SqL.of upd_same), rfl, rfl, _, rfl, ?_⟩⟩
      have s2 := s1.trans (same_new (o := .lst [.str "look", .str "swap", .str "try"]) n2)
      have lw : ("leave" : Str).length = 5 := rfl
      have e : Txt.join " " ["leave"] = "leave" := join1 _ _
      refine ⟨⟨_, rfl⟩, _, rfl, p, _, rfl, .inr ((KpT.of_same s2).sq hq), fun l hl => ⟨" ", l, ["leave"], rfl, rfl, .inl (SqL.of upd_same), by simp only [List.map_cons, List.map_nil, List.sum_cons, List.sum_nil, List.length_cons, List.length_nil, lw, lsp]; omega, ?_⟩⟩
      have r := q _ (s2.trans (same_new (o := .lst ((["leave"] : List Str).map V.str)) hl))
      rw [← e] at r
      exact r
    | @ret o ho =>
      refine ⟨_, rfl, p, _, _, _, rfl, rfl, hq, atI_nat (j := 0) rfl, rfl, _, rfl, ?_⟩
      refine ⟨_, rfl, p, _, _, _, rfl, rfl, hq, atI_nat (j := 0) rfl, (by show 2 ≤ sizeLine; decide), fun q1 n1 => ⟨q1, _, rfl, Or.inl (SqL.of upd_same), rfl, rfl, _, rfl, ?_⟩⟩
      have s1 := same_new (o := .lst [.str "loop", .str "joined"]) n1
      refine ⟨_, rfl, p, _, _, _, rfl, rfl, (KpT.of_same s1).sq hq, atI_nat (j := 0) rfl, (by show 3 ≤ sizeLine; decide), fun q2 n2 => ⟨q2, _, rfl, Or.inl (SqL.of upd_same), rfl, rfl, _, rfl, ?_⟩⟩
      have s2 := s1.trans (same_new (o := .lst [.str "look", .str "swap", .str "try"]) n2)
      have := ho.2.2
      have lw : ("return" : Str).length = 6 := rfl
      have wd : ("return " : Str) = "return" ++ " " := str_ext (by decide +kernel)
      have e : Txt.join " " ["return", o] = ("return " : Str) ++ o := by
        rw [join2, wd]
        try simp only [app_assoc]
      refine ⟨⟨_, rfl⟩, _, rfl, p, _, rfl, .inr ((KpT.of_same s2).sq hq), fun l hl => ⟨" ", l, ["return", o], rfl, rfl, .inl (SqL.of upd_same), by simp only [List.map_cons, List.map_nil, List.sum_cons, List.sum_nil, List.length_cons, List.length_nil, lw, lsp]; omega, ?_⟩⟩
      have r := q _ (s2.trans (same_new (o := .lst ((["return", o] : List Str).map V.str)) hl))
      rw [← e] at r
      exact r
/-- the bodies of a tree, in a list -/
def spBodies (K : PySem.W.Frag) : Sp := fun vs H Q _ => ∃ (p : Addr) (t : Tr), vs = [.ref p] ∧ TrAt K H p t ∧ ∀ (l pb pe : Addr) (H' : Hp), Same H H' → H l = none → H' l = some (.lst [.ref pb, .ref pe]) → BodyAt K H' pb t.inner → BodyAt K H' pe t.outer → Q (.ref l) H'
theorem ok_law_bodies (T : Txt K mg A) : FnOk P w K mg base CX0 1 A.a_law_bodies A.d_law_bodies ["_law_tree"] (spBodies K) := by
  have nd := sc_law_bodies.nd
  refine T.f_law_bodies.ok sc_law_bodies (fun vs H Q E h => ?_) (fun cdv A' outer s H vs Q E hr h => ?_)
  · obtain ⟨p, t, rfl, _⟩ := h
    rfl
  · obtain ⟨p, t, rfl, tr, q⟩ := h
    refine ⟨_, (pss_cons (ps_if (pt_cmpR op_eq (pe_ix ix_tup (pv 0) pe_int (fun _ _ => rfl)) pe_str (nomark _)) (pss_one (ps_ret (pe_lst (pa_cons (pe_ix ix_tup (pv 0) pe_int (fun _ _ => rfl)) (pa_cons (pe_ix ix_tup (pv 0) pe_int (fun _ _ => rfl)) pa_nil))))) pss_nil)
      (pss_one (ps_ret (pe_ifExp (pt_cmpR op_in_seq (pe_ix ix_tup (pv 0) pe_int (fun _ _ => rfl)) (pe_lst (pa_cons pe_str (pa_cons pe_str pa_nil))) (by rfl)) (pe_lst (pa_cons (pe_ix ix_tup (pv 0) pe_int (fun _ _ => rfl)) (pa_cons (pe_tup pa_nil) pa_nil))) (pe_lst (pa_cons (pe_tup pa_nil) (pa_cons (pe_tup pa_nil) pa_nil))))))), ?_⟩
    -- two empty bodies
    have none2 : ∀ {xs : List V} {w0 : Str}, H p = some (.tup (.str w0 :: xs)) → t.inner = [] → t.outer = [] → ∀ H1, Same H H1 → ∀ t1, H1 t1 = none → ∀ t2, (upd H1 t1 (.tup [])) t2 = none → ∀ l, (upd (upd H1 t1 (.tup [])) t2 (.tup [])) l = none → Q (.ref l) (upd (upd (upd H1 t1 (.tup [])) t2 (.tup [])) l (.lst [.ref t1, .ref t2])) := by
      intro xs w0 hp e1 e2 H1 s1 t1 n1 t2 n2 l n3
      have s2 := same_new (o := .tup []) n1
      have s3 := same_new (o := .tup []) n2
      have s4 := same_new (o := .lst [.ref t1, .ref t2]) n3
      refine q l t1 t2 _ (((s1.trans s2).trans s3).trans s4) ((s1.trans (s2.trans s3)).free n3) upd_same ?_ ?_
      · rw [e1]
        exact ⟨[], SqT.of (s4 _ _ (s3 _ _ upd_same)), .nil⟩
      · rw [e2]
        exact ⟨[], SqT.of (s4 _ _ upd_same), .nil⟩
    cases tr with
    | @cond _ pb pe l r b e ps qs hp hl hr' hb he tb te =>
      have hq : SqT K H p [.str "if", .str l, .str r, .ref pb, .ref pe] := SqT.of hp
      refine ⟨_, rfl, p, _, _, _, rfl, rfl, hq, atI_nat (j := 0) rfl, rfl, _, rfl, ?_⟩
      refine ⟨_, rfl, p, _, _, _, rfl, rfl, hq, atI_nat (j := 3) rfl, _, rfl, p, _, _, _, rfl, rfl, hq, atI_nat (j := 4) rfl, (by show 2 ≤ sizeLine; decide), fun l n => ?_⟩
      have s1 := same_new (o := .lst [.ref pb, .ref pe]) n
      have k1 := KpT.of_same s1
      exact q l pb pe _ s1 n upd_same ⟨ps, k1.sq hb, tb.mv k1⟩ ⟨qs, k1.sq he, te.mv k1⟩
    | @loop _ pb b ps hp hb tb =>
      have hq : SqT K H p [.str "loop", .ref pb] := SqT.of hp
      refine ⟨_, rfl, p, _, _, _, rfl, rfl, hq, atI_nat (j := 0) rfl, rfl, _, rfl, ?_⟩
      refine ⟨_, rfl, p, _, _, _, rfl, rfl, hq, atI_nat (j := 0) rfl, (by show 2 ≤ sizeLine; decide), fun q1 n1 => ⟨q1, _, rfl, Or.inl (SqL.of upd_same), rfl, rfl, _, rfl, ?_⟩⟩
      have s1 := same_new (o := .lst [.str "loop", .str "joined"]) n1
      refine ⟨_, rfl, p, _, _, _, rfl, rfl, (KpT.of_same s1).sq hq, atI_nat (j := 1) rfl, (by show 0 ≤ sizeLine; decide), fun t1 m1 => ⟨(by show 2 ≤ sizeLine; decide), fun l n => ?_⟩⟩
      have s2 := same_new (o := .tup []) m1
      have s3 := same_new (o := .lst [.ref pb, .ref t1]) n
      have k1 := KpT.of_same ((s1.trans s2).trans s3)
      exact q l pb t1 _ ((s1.trans s2).trans s3) ((s1.trans s2).free n) upd_same ⟨ps, k1.sq hb, tb.mv k1⟩ ⟨[], SqT.of (s3 _ _ upd_same), .nil⟩
    | @joined _ pb b ps hp hb tb =>
      have hq : SqT K H p [.str "joined", .ref pb] := SqT.of hp
      refine ⟨_, rfl, p, _, _, _, rfl, rfl, hq, atI_nat (j := 0) rfl, rfl, _, rfl, ?_⟩
      refine ⟨_, rfl, p, _, _, _, rfl, rfl, hq, atI_nat (j := 0) rfl, (by show 2 ≤ sizeLine; decide), fun q1 n1 => ⟨q1, _, rfl, Or.inl (SqL.of upd_same), rfl, rfl, _, rfl, ?_⟩⟩
      have s1 := same_new (o := .lst [.str "loop", .str "joined"]) n1
      refine ⟨_, rfl, p, _, _, _, rfl, rfl, (KpT.of_same s1).sq hq, atI_nat (j := 1) rfl, (by show 0 ≤ sizeLine; decide), fun t1 m1 => ⟨(by show 2 ≤ sizeLine; decide), fun l n => ?_⟩⟩
      have s2 := same_new (o := .tup []) m1
      have s3 := same_new (o := .lst [.ref pb, .ref t1]) n
      have k1 := KpT.of_same ((s1.trans s2).trans s3)
      exact q l pb t1 _ ((s1.trans s2).trans s3) ((s1.trans s2).free n) upd_same ⟨ps, k1.sq hb, tb.mv k1⟩ ⟨[], SqT.of (s3 _ _ upd_same), .nil⟩
    | @one _ k xs line hp one =>
      have s1 : ∀ {q1 : Addr}, H q1 = none → Same H (upd H q1 (.lst [.str "loop", .str "joined"])) := fun n => same_new n
      cases one <;> (
        have hq := SqT.of (K := K) hp
        refine ⟨_, rfl, p, _, _, _, rfl, rfl, hq, atI_nat (j := 0) rfl, rfl, _, rfl, ?_⟩
        refine ⟨_, rfl, p, _, _, _, rfl, rfl, hq, atI_nat (j := 0) rfl, (by show 2 ≤ sizeLine; decide), fun q1 n1 => ⟨q1, _, rfl, Or.inl (SqL.of upd_same), rfl, rfl, _, rfl, ?_⟩⟩
        exact ⟨(by show 0 ≤ sizeLine; decide), fun t1 m1 => ⟨(by show 0 ≤ sizeLine; decide), fun t2 m2 => ⟨(by show 2 ≤ sizeLine; decide), fun l n => none2 hp rfl rfl _ (s1 n1) t1 m1 t2 m2 l n⟩⟩⟩)
end
end K07
set_option Elab.async false
set_option linter.all false
set_option maxRecDepth 100000
set_option maxHeartbeats 4000000
namespace K07
open PySem PySem.Spec PyProof.Rows L2 Mo
/-! ### trees as data -/
mutual
def dataT : Tr → PyData
  | .one _ xs _ => .tuple (xs.map PyData.str)
  | .cond l r b e => .tuple [.str "if", .str l, .str r, .tuple (dataB b), .tuple (dataB e)]
  | .loop b => .tuple [.str "loop", .tuple (dataB b)]
  | .joined b => .tuple [.str "joined", .tuple (dataB b)]
def dataB : List Tr → List PyData
  | [] => []
  | t :: ts => dataT t :: dataB ts
end
mutual
theorem TrAt.dp {K : PySem.W.Frag} {H : Hp} : ∀ {p : Addr} {t : Tr}, TrAt K H p t → Dp K H (.ref p) (dataT t)
  | _, _, .one h o => by rw [dataT]; exact .tup (SqT.of h) (dp_strs _)
  | _, _, .cond h hl hr hb he tb te => by
    rw [dataT]
    exact .tup (SqT.of h) (.cons (.str _) (.cons (.str _) (.cons (.str _) (.cons (.tup hb (TrsAt.dp tb)) (.cons (.tup he (TrsAt.dp te)) .nil)))))
  | _, _, .loop h hb tb => by
    rw [dataT]
    exact .tup (SqT.of h) (.cons (.str _) (.cons (.tup hb (TrsAt.dp tb)) .nil))
  | _, _, .joined h hb tb => by
    rw [dataT]
    exact .tup (SqT.of h) (.cons (.str _) (.cons (.tup hb (TrsAt.dp tb)) .nil))
theorem TrsAt.dp {K : PySem.W.Frag} {H : Hp} : ∀ {ps : List Addr} {ts : List Tr}, TrsAt K H ps ts → DpAll K H (ps.map V.ref) (dataB ts)
  | _, _, .nil => by rw [dataB]; exact .nil
  | _, _, .cons h r => by rw [dataB]; exact .cons (TrAt.dp h) (TrsAt.dp r)
end
theorem One.words {k : Nat} {xs : List Str} {line : Str} (o : One k xs line) : ∀ x ∈ xs, AlnT x := by
  intro x hx
  have a : ∀ {x : Str}, x.cps.toList.all Aln = true → AlnT x := aln_by
  cases o <;> simp only [List.mem_cons, List.not_mem_nil, or_false] at hx
  case look hc hi => rcases hx with rfl | rfl | rfl <;> first | exact a (by decide +kernel) | exact hc.2.1 | exact hi.2.1
  case put hc ho => rcases hx with rfl | rfl | rfl <;> first | exact a (by decide +kernel) | exact hc.2.1 | exact ho.2.1
  case swap hc ho hi => rcases hx with rfl | rfl | rfl | rfl <;> first | exact a (by decide +kernel) | exact hc.2.1 | exact ho.2.1 | exact hi.2.1
  case try_ hc ho hn hi => rcases hx with rfl | rfl | rfl | rfl | rfl <;> first | exact a (by decide +kernel) | exact hc.2.1 | exact ho.2.1 | exact hn.2.1 | exact hi.2.1
  case let_ hi ho => rcases hx with rfl | rfl | rfl <;> first | exact a (by decide +kernel) | exact hi.2.1 | exact ho.2.1
  case leave => rw [hx]; exact a (by decide +kernel)
  case ret ho => rcases hx with rfl | rfl <;> first | exact a (by decide +kernel) | exact ho.2.1
mutual
theorem TrAt.pl {K : PySem.W.Frag} {H : Hp} : ∀ {p : Addr} {t : Tr}, TrAt K H p t → Pl (dataT t)
  | _, _, .one h o => by rw [dataT, Pl]; exact plAll_strs o.words
  | _, _, .cond h hl hr hb he tb te => by
    rw [dataT]
    simp only [Pl, PlAll]
    exact ⟨aln_by (by decide +kernel), hl.2.1, hr.2.1, TrsAt.pl tb, TrsAt.pl te, trivial⟩
  | _, _, .loop h hb tb => by
    rw [dataT]
    simp only [Pl, PlAll]
    exact ⟨aln_by (by decide +kernel), TrsAt.pl tb, trivial⟩
  | _, _, .joined h hb tb => by
    rw [dataT]
    simp only [Pl, PlAll]
    exact ⟨aln_by (by decide +kernel), TrsAt.pl tb, trivial⟩
theorem TrsAt.pl {K : PySem.W.Frag} {H : Hp} : ∀ {ps : List Addr} {ts : List Tr}, TrsAt K H ps ts → PlAll (dataB ts)
  | _, _, .nil => by rw [dataB, PlAll]; trivial
  | _, _, .cons h r => by rw [dataB, PlAll]; exact ⟨TrAt.pl h, TrsAt.pl r⟩
end
theorem depth_strs : ∀ xs : List Str, PyData.depthAll (xs.map PyData.str) = 0
  | [] => rfl
  | x :: xs => by
    show max 0 (PyData.depthAll (xs.map PyData.str)) = 0
    rw [depth_strs xs]
    rfl
mutual
theorem depthT : ∀ t : Tr, (dataT t).depth ≤ 2 * lvT t
  | .one k xs l => by
    rw [dataT, lvT]
    show PyData.depthAll (xs.map PyData.str) + 1 ≤ 2
    rw [depth_strs]
    decide
  | .cond l r b e => by
    have h1 := depthB b
    have h2 := depthB e
    rw [dataT, lvT]
    show max 0 (max 0 (max 0 (max (PyData.depthAll (dataB b) + 1) (max (PyData.depthAll (dataB e) + 1) 0)))) + 1 ≤ _
    omega
  | .loop b => by
    have h1 := depthB b
    rw [dataT, lvT]
    show max 0 (max (PyData.depthAll (dataB b) + 1) 0) + 1 ≤ _
    omega
  | .joined b => by
    have h1 := depthB b
    rw [dataT, lvT]
    show max 0 (max (PyData.depthAll (dataB b) + 1) 0) + 1 ≤ _
    omega
theorem depthB : ∀ ts : List Tr, PyData.depthAll (dataB ts) ≤ 2 * lvB ts
  | [] => by
    rw [dataB]
    exact Nat.zero_le _
  | t :: ts => by
    have h1 := depthT t
    have h2 := depthB ts
    rw [dataB, lvB]
    show max (dataT t).depth (PyData.depthAll (dataB ts)) ≤ _
    omega
end
theorem body_shaped {K : PySem.W.Frag} {H : Hp} {ps : List Addr} {ts : List Tr} (h : TrsAt K H ps ts) (hl : lvB ts ≤ 20) : SeqAt.shaped (.tuple (dataB ts)) = true := by
  unfold SeqAt.shaped
  rw [Bool.and_eq_true]
  refine ⟨lay_plain (by rw [Pl]; exact h.pl), decide_eq_true ?_⟩
  have := depthB ts
  show PyData.depthAll (dataB ts) + 1 ≤ 64
  omega
theorem eqv_empty (ts : List Tr) : PyData.eqv (.tuple (dataB ts)) (.tuple []) = decide (ts.length = 0) := by
  cases ts with
  | nil => rw [dataB]; decide +kernel
  | cons t ts =>
    rw [dataB]
    simp [PyData.eqv, PyData.eqvAll]
/-! ### lines -/
theorem TrAt.line_ok {K : PySem.W.Frag} {H : Hp} {p : Addr} {t : Tr} (h : TrAt K H p t) : t.line.length ≤ 200 ∧ AlnT t.line := by
  cases h with
  | one h o => exact o.line_ok
  | cond h hl hr _ _ _ _ => exact cond_line hl hr
  | loop _ _ _ => exact ⟨by show 4 ≤ 200; decide, show AlnT ("loop" : Str) from aln_by (by decide +kernel)⟩
  | joined _ _ _ => exact ⟨by show 6 ≤ 200; decide, show AlnT ("joined" : Str) from aln_by (by decide +kernel)⟩
mutual
theorem rowsT_len : ∀ t : Tr, (rowsT t).length + 1 ≤ 2 * amT t
  | .one _ _ _ => by
    rw [rowsT, amT]
    show 2 ≤ 2
    decide
  | .cond l r b e => by
    have h1 := rowsB_len b
    have h2 := rowsB_len e
    rw [rowsT, amT, List.length_cons, List.length_append]
    have e1 : (ind (rowsB b)).length = (rowsB b).length := by simp [ind]
    have e2 : (elseR e (rowsB e)).length ≤ 2 * amB e := by
      cases e with
      | nil => exact Nat.zero_le _
      | cons t ts =>
        have e3 : (elseR (t :: ts) (rowsB (t :: ts))).length = (rowsB (t :: ts)).length + 1 := by simp [elseR, ind]
        rw [e3]
        rw [List.length_cons] at h2
        omega
    omega
  | .loop b => by
    have h1 := rowsB_len b
    rw [rowsT, amT]
    simp [ind]
    omega
  | .joined b => by
    have h1 := rowsB_len b
    rw [rowsT, amT]
    simp [ind]
    omega
theorem rowsB_len : ∀ ts : List Tr, (rowsB ts).length + ts.length ≤ 2 * amB ts
  | [] => by
    rw [rowsB]
    exact Nat.zero_le _
  | t :: ts => by
    have h1 := rowsT_len t
    have h2 := rowsB_len ts
    rw [rowsB, amB, List.length_append, List.length_cons]
    omega
end
/-- a row further in -/
def pre (x : Str) (rs : List Str) : List Str := rs.map fun r => x ++ r
theorem pre_ind (x : Str) (rs : List Str) : pre x (ind rs) = pre (x ++ "  ") rs := by
  unfold pre ind
  rw [List.map_map]
  refine List.map_congr_left fun r _ => ?_
  show x ++ ("  " ++ r) = x ++ "  " ++ r
  rw [app_assoc]
theorem pre_app (x : Str) (a b : List Str) : pre x (a ++ b) = pre x a ++ pre x b := List.map_append
theorem pre_rowsT (x : Str) (t : Tr) : pre x (rowsT t) = (x ++ t.line) :: (pre (x ++ "  ") (rowsB t.inner) ++ (if t.outer.length = 0 then [] else (x ++ "else") :: pre (x ++ "  ") (rowsB t.outer))) := by
  rw [rowsT_eq]
  show (x ++ t.line) :: pre x (ind (rowsB t.inner) ++ elseR t.outer (rowsB t.outer)) = _
  rw [pre_app, pre_ind]
  cases h : t.outer with
  | nil => rfl
  | cons u us =>
    rw [if_neg (by simp)]
    show _ :: (_ ++ ((x ++ "else") :: pre x (ind (rowsB (u :: us))))) = _
    rw [pre_ind]
theorem pre_len (x : Str) (rs : List Str) : (pre x rs).length = rs.length := by simp [pre]
section
variable {w : World} {K : PySem.W.Frag} {mg : Str → Option Value} {base : Heap} {A : Ads}
def spLines (K : PySem.W.Frag) (n : Nat) : Sp := fun vs H Q _ => ∃ (a : Addr) (ps : List Addr) (ts : List Tr) (x : Str), vs = [.ref a, .str x] ∧ Sq K H a (ps.map V.ref) ∧ TrsAt K H ps ts ∧ lvB ts < n ∧ lvB ts ≤ 20 ∧ amB ts ≤ 1000 ∧ x.length + 2 * lvB ts ≤ 100 ∧
  ∀ (l : Addr) (H' : Hp), Same H H' → H l = none → H' l = some (.lst ((pre x (rowsB ts)).map V.str)) → Q (.ref l) H'
theorem lines_step (T : Txt K mg A) (n : Nat) (ih : FnOk P w K mg base CX0 (n + 2) A.a_law_lines A.d_law_lines ["_law_trees", "_law_indent"] (spLines K n)) :
    FnOk P w K mg base CX0 (n + 3) A.a_law_lines A.d_law_lines ["_law_trees", "_law_indent"] (spLines K (n + 1)) := by
  have nd := sc_law_lines.nd
  refine T.f_law_lines.ok sc_law_lines (fun vs H Q E h => ?_) (fun cdv A' outer s H vs Q E hr h => ?_)
  · obtain ⟨a, ps, ts, x, rfl, _⟩ := h
    rfl
  · obtain ⟨a, ps, ts, x, rfl, hs, tr, ln, l20, am, xl, q⟩ := h
    refine ⟨_, (pss_cons (ps_set (i := 2) nd rfl (Or.inl rfl) (pe_lst pa_nil))
      (pss_cons (ps_for PassesOwn.never rfl (pi_seq (pv 0)) (pg_name (i := 3) nd rfl (Or.inl rfl)) (pss_cons (ps_asg (pe_call (ok_law_bodies T) (hr.mono (by omega)) (by rfl) T.m_law_bodies T.k_law_bodies T.v_law_bodies .nil pass0 (pa_cons (pv 3) pa_nil)) (pg_unl rfl (pgs_cons (pg_name (i := 4) nd rfl (Or.inl rfl)) (pgs_cons (pg_name (i := 5) nd rfl (Or.inl rfl)) pgs_nil))))
      (pss_cons (ps_set (i := 2) nd rfl (Or.inl rfl) (pe_op op_cat (pe_op op_cat (pv 2) (pe_lst (pa_cons (pe_op op_add_str (pv 1) (pe_call (ok_law_head T) (hr.mono (by omega)) (by rfl) T.m_law_head T.k_law_head T.v_law_head .nil pass0 (pa_cons (pv 3) pa_nil))) pa_nil))) (pe_call ih (hr.mono (by omega)) (by rfl) T.m_law_lines T.k_law_lines T.v_law_lines .nil pass0 (pa_cons (pv 4) (pa_cons (pe_op op_add_str (pv 1) pe_str) pa_nil)))))
      (pss_one (ps_if (pt_cmpR (op_neD hr.units) (pv 5) (pe_tup pa_nil) (nomark _)) (pss_one (ps_set (i := 2) nd rfl (Or.inl rfl) (pe_op op_cat (pe_op op_cat (pv 2) (pe_lst (pa_cons (pe_op op_add_str (pv 1) pe_str) pa_nil))) (pe_call ih (hr.mono (by omega)) (by rfl) T.m_law_lines T.k_law_lines T.v_law_lines .nil pass0 (pa_cons (pv 5) (pa_cons (pe_op op_add_str (pv 1) pe_str) pa_nil)))))) pss_nil)))))
      (pss_one (ps_ret (pv 2))))), ?_⟩
    refine ⟨Nat.zero_le _, fun f nf => ?_⟩
    have s0 := same_new (o := .lst []) nf
    refine ⟨_, rfl, a, rfl, for_seq (hs.same s0) (fun i σ H2 => Same (upd H f (.lst [])) H2 ∧ ∃ (f2 : Addr) (v3 v4 v5 : Option V), σ = [some (.ref a), some (.str x), some (.ref f2), v3, v4, v5] ∧ H f2 = none ∧ H2 f2 = some (.lst ((pre x (rowsB (ts.take i))).map V.str))) ⟨Same.refl _, f, _, _, _, rfl, nf, ?_⟩ (fun i σ H2 h => h.1) ?_ ?_⟩
    · rw [upd_same, List.take_zero, rowsB_nil]
      rfl
    · rintro i y σ H2 hy ⟨s2, f2, v3, v4, v5, rfl, nf2, hf2⟩
      rw [List.getElem?_map] at hy
      obtain ⟨p, hp, rfl⟩ := Option.map_eq_some_iff.mp hy
      obtain ⟨t, ht, trp⟩ := tr.get hp
      have hil : i < ts.length := (List.getElem?_eq_some_iff.mp ht).1
      have s02 := s0.trans s2
      have tk : rowsB (ts.take (i + 1)) = rowsB (ts.take i) ++ rowsT t := by
        rw [List.take_add_one, ht, rowsB_app]
        show _ ++ rowsB [t] = _
        rw [rowsB_cons, rowsB_nil, List.append_nil]
      have lt : lvT t ≤ lvB ts := lvB_mem (List.mem_of_getElem? ht)
      have at_ : amT t ≤ amB ts := amB_mem (List.mem_of_getElem? ht)
      have lte := lvT_eq t
      have ate := amT_eq t
      obtain ⟨ll, _⟩ := trp.line_ok
      have tkl : (rowsB (ts.take i)).length ≤ 2000 := by
        have e : rowsB ts = rowsB (ts.take i) ++ rowsB (ts.drop i) := by rw [← rowsB_app, List.take_append_drop]
        have h1 := rowsB_len ts
        rw [e, List.length_append] at h1
        omega
      have il := rowsB_len t.inner
      have ol := rowsB_len t.outer
      refine ⟨_, rfl, p, t, rfl, trp.mv (KpT.of_same s02), fun l pb pe H3 s3 nl hl bb be => ?_⟩
      refine ⟨l, _, rfl, SqL.of hl, rfl, _, _, rfl, _, _, rfl, rfl, ?_⟩
      have s03 := s02.trans s3
      -- the head
      refine ⟨_, rfl, _, rfl, _, rfl, p, t, rfl, trp.mv (KpT.of_same s03), fun H4 s4 => ⟨_, _, rfl, rfl, len5000 (by omega), (by show 1 ≤ sizeLine; decide), fun q1 n1 => ?_⟩⟩
      have e5 := same_new (o := .lst [.str (x ++ t.line)]) n1
      have hf5 := e5 _ _ (s4 _ _ (s3 _ _ hf2))
      have lz : ∀ z : List Str, (z.map V.str).length = z.length := fun z => List.length_map ..
      refine ⟨f2, q1, _, _, rfl, rfl, hf5, upd_same, by rw [lz, pre_len]; exact len5000 (by show _ + 1 ≤ 5000; omega), fun f3 m3 => ?_⟩
      have e6 := same_new (o := .lst ((pre x (rowsB (ts.take i))).map V.str ++ [.str (x ++ t.line)])) m3
      have s36 := (s4.trans e5).trans e6
      have s06 := s03.trans s36
      -- the inner body
      obtain ⟨pbs, sqb, trb⟩ := bb.mv (KpT.of_same s36)
      obtain ⟨pes, sqe, tre⟩ := be.mv (KpT.of_same s36)
      have l2 : (x ++ "  " : Str).length = x.length + 2 := by rw [app_length]; rfl
      refine ⟨_, rfl, _, rfl, _, _, rfl, rfl, len5000 (by show x.length + 2 ≤ 5000; omega), pb, pbs, t.inner, x ++ "  ", rfl, .inr sqb, trb, by omega, by omega, by omega, by omega, fun l7 H7 s7 n7 h7 => ?_⟩
      have s07 := s06.trans s7
      refine ⟨f3, l7, _, _, rfl, rfl, s7 _ _ upd_same, h7, by rw [List.length_append, lz, lz, pre_len, pre_len]; exact len5000 (by show _ + 1 + _ ≤ 5000; omega), fun f4 m4 => ?_⟩
      have e8 := same_new (o := .lst ((pre x (rowsB (ts.take i))).map V.str ++ [.str (x ++ t.line)] ++ (pre (x ++ "  ") (rowsB t.inner)).map V.str)) m4
      have s08 := s07.trans e8
      have nf4 : H f4 = none := s07.free m4
      -- is there an else
      refine ⟨_, rfl, (by show 0 ≤ sizeLine; decide), fun z0 nz => ?_⟩
      have e9 := same_new (o := .tup []) nz
      have s69 := (s7.trans e8).trans e9
      refine ⟨.tuple (dataB t.outer), .tuple [], .tup ((KpT.of_same s69).sq sqe) (tre.mv (KpT.of_same s69)).dp, .tup (SqT.of upd_same) .nil, body_shaped tre (by omega), by decide +kernel, _, rfl, ?_⟩
      rw [eqv_empty]
      have s2e : Same (upd H f (.lst [])) (upd (upd H7 f4 (.lst ((pre x (rowsB (ts.take i))).map V.str ++ [.str (x ++ t.line)] ++ (pre (x ++ "  ") (rowsB t.inner)).map V.str))) z0 (.tup [])) := (((s2.trans s3).trans s36).trans s7).trans (e8.trans e9)
      by_cases h0 : t.outer.length = 0
      · rw [decide_eq_true h0]
        refine ⟨s2e, f4, _, _, _, rfl, nf4, ?_⟩
        rw [e9 _ _ upd_same, tk, pre_app, pre_rowsT, if_pos h0]
        simp
      · rw [decide_eq_false h0]
        refine ⟨_, rfl, _, rfl, _, _, rfl, rfl, len5000 (by show x.length + 4 ≤ 5000; omega), (by show 1 ≤ sizeLine; decide), fun q2 n2 => ?_⟩
        have e10 := same_new (o := .lst [.str (x ++ "else")]) n2
        refine ⟨f4, q2, _, _, rfl, rfl, e10 _ _ (e9 _ _ upd_same), upd_same, ?_, fun f5 m5 => ?_⟩
        · rw [List.length_append, List.length_append, lz, lz, pre_len, pre_len]
          exact len5000 (by show _ + 1 + _ + 1 ≤ 5000; omega)
        have e11 := same_new (o := .lst ((pre x (rowsB (ts.take i))).map V.str ++ [.str (x ++ t.line)] ++ (pre (x ++ "  ") (rowsB t.inner)).map V.str ++ [.str (x ++ "else")])) m5
        have s6b := (s69.trans e10).trans e11
        refine ⟨_, rfl, _, rfl, _, _, rfl, rfl, len5000 (by show x.length + 2 ≤ 5000; omega), pe, pes, t.outer, x ++ "  ", rfl, .inr ((KpT.of_same s6b).sq sqe), tre.mv (KpT.of_same s6b), by omega, by omega, by omega, by omega, fun l8 H12 s12 n12 h12 => ?_⟩
        refine ⟨f5, l8, _, _, rfl, rfl, s12 _ _ upd_same, h12, ?_, fun f6 m6 => ?_⟩
        · rw [List.length_append, List.length_append, List.length_append, lz, lz, lz, pre_len, pre_len, pre_len]
          exact len5000 (by show _ + 1 + _ + 1 + _ ≤ 5000; omega)
        have e13 := same_new (o := .lst ((pre x (rowsB (ts.take i))).map V.str ++ [.str (x ++ t.line)] ++ (pre (x ++ "  ") (rowsB t.inner)).map V.str ++ [.str (x ++ "else")] ++ (pre (x ++ "  ") (rowsB t.outer)).map V.str)) m6
        have sE := ((e10.trans e11).trans s12).trans e13
        refine ⟨s2e.trans sE, f6, _, _, _, rfl, ?_, ?_⟩
        · exact (s06.trans ((s6b).trans s12)).free m6
        · rw [upd_same, tk, pre_app, pre_rowsT, if_neg h0]
          simp
    · rintro σ H2 ⟨s2, f2, v3, v4, v5, rfl, nf2, hf2⟩
      refine ⟨_, rfl, q f2 H2 (s0.trans s2) nf2 ?_⟩
      rw [hf2, List.take_of_length_le (by rw [List.length_map, tr.len]; exact Nat.le_refl _)]
theorem ok_law_lines (T : Txt K mg A) : ∀ n : Nat, FnOk P w K mg base CX0 (n + 2) A.a_law_lines A.d_law_lines ["_law_trees", "_law_indent"] (spLines K n)
  | 0 => FnOk.vac fun vs H Q E h => by
    obtain ⟨a, ps, ts, x, _, _, _, h, _⟩ := h
    omega
  | n + 1 => lines_step T n (ok_law_lines T n)
end
end K07
set_option Elab.async false
set_option linter.all false
set_option maxRecDepth 100000
set_option maxHeartbeats 4000000
namespace K07
open PySem PySem.Spec PyProof.Rows L2 Mo
def scSize : Scope := match defBody st_law_size with
  | [.Return (some (.Call _ [.ListComp _ _ sc _] _ _)) _] => sc
  | _ => { kind := .function, names := [], isGenerator := false, isCoroutine := false }
section
variable {w : World} {K : PySem.W.Frag} {mg : Str → Option Value} {base : Heap} {A : Ads}
/-- a number told of each of two bodies, in a list -/
theorem two_lc {H : Hp} {l pb pe : Addr} {u v : Nat} {vs : List Nat} {σ : L2.St} {D : Addr} {Qd : Hp → Prop} {te : TE} {i3 : Nat} (hl : H l = some (.lst [.ref pb, .ref pe])) (hD : H D = none)
    (h1 : ∀ (H2 : Hp) (R : VK), Same H H2 → (∀ H3, Same H2 H3 → R (.int (u : Nat)) H3) → te ((wipe σ vs).set i3 (some (.ref pb))) H2 R) (h2 : ∀ (H2 : Hp) (R : VK), Same H H2 → (∀ H3, Same H2 H3 → R (.int (v : Nat)) H3) → te ((wipe σ vs).set i3 (some (.ref pe))) H2 R) (hw : ∀ x, wipe ((wipe σ vs).set i3 x) vs = wipe σ vs)
    (hq : ∀ H2, Same H H2 → H2 D = some (.lst (([(u : Int), (v : Int)]).map V.int)) → Qd H2) :
    ∃ W : Nat → Nat → Hp → Prop, (∃ m, W 0 m (upd H D (.lst []))) ∧ ∀ i m H, W i m H →
      ((Itl K l).stop i H ∧ Qd H) ∨ ((Itl K l).go i H ∧ ∃ Nx : Hp → Prop, (∀ H', Nx H' → ∃ m', m' < m ∧ W (i + 1) m' H') ∧ ∀ x H', (Itl K l).yld i H x H' → gName i3 x (wipe σ vs) H' fun σ2 H2 => wipe σ2 vs = wipe σ vs ∧ tYes σ2 H2 fun b H3 =>
        if b = true then te σ2 H3 fun y H4 => ∃ acc, H4 D = some (.lst acc) ∧ acc.length < sizeLine ∧ Nx (upd H4 D (.lst (acc ++ [y]))) else Nx H3) := by
  refine lc_it (walk_list (K := K) (a := l) (xs := [.ref pb, .ref pe])) (g := gName i3) (tt := tYes) (te := te) (fun i H2 => Same H H2 ∧ H2 D = some (.lst ((([(u : Int), (v : Int)]).take i).map V.int))) ⟨same_new hD, upd_same⟩ (fun i H2 _ h => SqL.of (h.1 _ _ hl)) ?_ ?_
  · rintro i x H1 H2 hi ⟨sm, hd⟩ ⟨rfl, hx⟩
    refine ⟨hw _, ?_⟩
    have fin : ∀ (H3 : Hp) (y : Int), Same H2 H3 → ([(u : Int), (v : Int)]).take (i + 1) = ([(u : Int), (v : Int)]).take i ++ [y] → ∃ acc, H3 D = some (.lst acc) ∧ acc.length < sizeLine ∧ Same H (upd H3 D (.lst (acc ++ [.int y]))) ∧ (upd H3 D (.lst (acc ++ [.int y]))) D = some (.lst ((([(u : Int), (v : Int)]).take (i + 1)).map V.int)) := by
      intro H3 y s3 e
      refine ⟨_, s3 _ _ hd, ?_, fun b o z => ?_, ?_⟩
      · rw [List.length_map, List.length_take]
        exact lt5000 (by show min i 2 < 5000; omega)
      · rw [upd_ne (ne_of_none z hD)]
        exact s3 _ _ (sm _ _ z)
      · rw [upd_same, e, List.map_append]
        rfl
    have hi2 : i = 0 ∨ i = 1 := by
      have : i < 2 := hi
      omega
    rcases hi2 with rfl | rfl
    · cases hx
      exact h1 H2 _ sm fun H3 s3 => fin H3 u s3 rfl
    · cases hx
      exact h2 H2 _ sm fun H3 s3 => fin H3 v s3 rfl
  · rintro H2 ⟨sm, hd⟩
    exact hq H2 sm hd
theorem sum_am : ∀ ts : List Tr, (ts.map fun t => ((amT t : Nat) : Int)).sum = ((amB ts : Nat) : Int)
  | [] => by rw [amB_nil]; rfl
  | t :: ts => by
    rw [List.map_cons, List.sum_cons, sum_am ts, amB_cons]
    omega
def spSize (K : PySem.W.Frag) (n : Nat) : Sp := fun vs H Q _ => ∃ (a : Addr) (ps : List Addr) (ts : List Tr), vs = [.ref a] ∧ Sq K H a (ps.map V.ref) ∧ TrsAt K H ps ts ∧ lvB ts < n ∧ amB ts ≤ 1000 ∧ ∀ H', Same H H' → Q (.int (amB ts : Nat)) H'
theorem size_step (T : Txt K mg A) (n : Nat) (ih : FnOk P w K mg base CX0 (n + 2) A.a_law_size A.d_law_size ["_law_trees"] (spSize K n)) :
    FnOk P w K mg base CX0 (n + 3) A.a_law_size A.d_law_size ["_law_trees"] (spSize K (n + 1)) := by
  have nd := sc_law_size.nd
  refine T.f_law_size.ok sc_law_size (fun vs H Q E h => ?_) (fun cdv A' outer s H vs Q E hr h => ?_)
  · obtain ⟨a, ps, ts, rfl, _⟩ := h
    rfl
  · obtain ⟨a, ps, ts, rfl, hs, tr, ln, am, q⟩ := h
    have ltr := tr.len
    have lps : ps.length ≤ 1000 := by
      rw [tr.len]
      exact Nat.le_trans (amB_len ts) am
    refine ⟨_, (pss_one (ps_ret (pe_callB (cr_sum rfl) (by rfl) T.b_sum (by decide +kernel) (pa_cons (pe_lc (own := [("_law_tree", 1)]) (g := gName 1) (tt := tYes) rfl nd (pi_seq (pv 0)) (blkOk_by (N := nm_law_size) (sc := defScope st_law_size) (by decide +kernel)) (fun _ _ _ _ _ => (pg_name (i := 1) nd rfl (Or.inl rfl))) (fun _ _ _ _ _ => pts_nil) (fun _ _ _ _ _ => (pe_op op_add pe_int (pe_callB (show CallR _ _ (rSum K) from cr_sum rfl) (by rfl) T.b_sum (by decide +kernel) (pa_cons (pe_lc (own := [("_law_side", 2)]) (g := gName 2) (tt := tYes) rfl nd (show PI _ _ _ (iList K _) from pi_list (pe_call (ok_law_bodies T) (hr.mono (by omega)) (by rfl) T.m_law_bodies T.k_law_bodies T.v_law_bodies .nil pass0 (pa_cons (pv 1) pa_nil))) (blkOk_by (N := nm_law_size) (sc := scSize) (by decide +kernel)) (fun _ _ _ _ _ => (pg_name (i := 2) nd rfl (Or.inl rfl))) (fun _ _ _ _ _ => pts_nil) (fun _ _ _ _ _ => (pe_call ih (hr.mono (by omega)) (by rfl) T.m_law_size T.k_law_size T.v_law_size .nil pass0 (pa_cons (pv 2) pa_nil)))) pa_nil))))) pa_nil)))), ?_⟩
    refine ⟨_, rfl, a, rfl, lc_seq hs (fun D i H2 => Same H H2 ∧ H2 D = some (.lst (((ts.take i).map fun t => ((amT t : Nat) : Int)).map V.int))) (fun D hD => ⟨same_new hD, upd_same⟩) (fun D i H2 h => h.1) ?_ ?_⟩
    · rintro D i x H2 hD hx ⟨s2, hd⟩
      rw [List.getElem?_map] at hx
      obtain ⟨p, hp, rfl⟩ := Option.map_eq_some_iff.mp hx
      obtain ⟨t, ht, trp⟩ := tr.get hp
      have hil : i < ts.length := (List.getElem?_eq_some_iff.mp ht).1
      have lt : lvT t ≤ lvB ts := lvB_mem (List.mem_of_getElem? ht)
      have at_ : amT t ≤ amB ts := amB_mem (List.mem_of_getElem? ht)
      have lte := lvT_eq t
      have ate := amT_eq t
      refine ⟨rfl, _, rfl, p, t, rfl, trp.mv (KpT.of_same s2), fun l pb pe H3 s3 nl hl bb be => ?_⟩
      obtain ⟨pbs, sqb, trb⟩ := bb
      obtain ⟨pes, sqe, tre⟩ := be
      refine ⟨l, rfl, ⟨_, SqL.of hl⟩, fun D2 hD2 => two_lc (u := amB t.inner) (v := amB t.outer) (i3 := 2) hl hD2 (fun H4 R s4 k => ⟨_, rfl, pb, pbs, t.inner, rfl, .inr ((KpT.of_same s4).sq sqb), trb.mv (KpT.of_same s4), by omega, by omega, k⟩)
        (fun H4 R s4 k => ⟨_, rfl, pe, pes, t.outer, rfl, .inr ((KpT.of_same s4).sq sqe), tre.mv (KpT.of_same s4), by omega, by omega, k⟩) (fun _ => rfl) fun H4 s4 hd4 => ?_⟩
      refine ⟨D2, _, rfl, SqL.of hd4, _, _, rfl, rfl, _, s4 _ _ (s3 _ _ hd), ?_, ?_, ?_⟩
      · rw [List.length_map, List.length_map, List.length_take]
        exact lt5000 (by omega)
      · intro b o e
        rw [upd_ne (ne_of_none e hD)]
        exact s4 _ _ (s3 _ _ (s2 _ _ e))
      · rw [upd_same, List.take_add_one, ht, List.map_append, List.map_append]
        have e : (1 : Int) + [((amB t.inner : Nat) : Int), ((amB t.outer : Nat) : Int)].sum = ((amT t : Nat) : Int) := by
          simp only [List.sum_cons, List.sum_nil]
          omega
        show some (HO.lst (_ ++ [V.int ((1 : Int) + [((amB t.inner : Nat) : Int), ((amB t.outer : Nat) : Int)].sum)])) = _
        rw [e]
        rfl
    · rintro D H2 hD ⟨s2, hd⟩
      refine ⟨D, (ts.map fun t => ((amT t : Nat) : Int)), rfl, SqL.of ?_, ?_⟩
      · rw [hd, List.take_of_length_le (by rw [List.length_map, tr.len]; exact Nat.le_refl _)]
      · have e : (ts.map fun t => ((amT t : Nat) : Int)).sum = ((amB ts : Nat) : Int) := by
          exact sum_am ts
        rw [e]
        exact q H2 s2
theorem ok_law_size (T : Txt K mg A) : ∀ n : Nat, FnOk P w K mg base CX0 (n + 2) A.a_law_size A.d_law_size ["_law_trees"] (spSize K n)
  | 0 => FnOk.vac fun vs H Q E h => by
    obtain ⟨a, ps, ts, _, _, _, h, _⟩ := h
    omega
  | n + 1 => size_step T n (ok_law_size T n)
/-! ### heights -/
end
end K07
set_option Elab.async false
set_option linter.all false
set_option maxRecDepth 100000
set_option maxHeartbeats 4000000
namespace K07
open PySem PySem.Spec PyProof.Rows L2 Mo
/-! ### what may stand in a joined statement -/
def goK (k : Nat) : Bool := decide (k ≤ 4) || k == 7
mutual
def goT : Tr → Bool
  | .one k _ _ => goK k && true
  | .cond _ _ b e => goK 7 && (goB b && goB e)
  | .loop b => goK 8 && (goB b && true)
  | .joined b => goK 9 && (goB b && true)
def goB : List Tr → Bool
  | [] => true
  | t :: ts => goT t && goB ts
end
theorem goB_nil : goB [] = true := by rw [goB]
theorem goB_cons (t : Tr) (ts : List Tr) : goB (t :: ts) = (goT t && goB ts) := by rw [goB]
theorem goT_eq (t : Tr) : goT t = (goK t.k && (goB t.inner && goB t.outer)) := by
  cases t <;> simp [goT, Tr.k, Tr.inner, Tr.outer, goB]
theorem goB_app : ∀ a b : List Tr, goB (a ++ b) = (goB a && goB b)
  | [], b => by rw [goB_nil]; rfl
  | t :: a, b => by rw [List.cons_append, goB_cons, goB_cons, goB_app a b, Bool.and_assoc]
theorem goB_all : ∀ ts : List Tr, goB ts = ts.all goT
  | [] => by rw [goB_nil]; rfl
  | t :: ts => by rw [goB_cons, goB_all ts]; rfl
abbrev kwords : List Str := ["look", "put", "swap", "try", "let", "leave", "return", "if", "loop", "joined"]
section
variable {w : World} {K : PySem.W.Frag} {mg : Str → Option Value} {base : Heap} {A : Ads}
theorem con_k (T : Txt K mg A) {k : Nat} {C : Addr} (h : A.fam[k]? = some C) : ∃ u z, kwords[k]? = some z ∧ Con K C "WORD" (.str z) u := by
  match k, h with
  | 0, h => cases (show some A.c_Look = some C from h); obtain ⟨u, c⟩ := T.co_Look; exact ⟨u, _, rfl, c⟩
  | 1, h => cases (show some A.c_Put = some C from h); obtain ⟨u, c⟩ := T.co_Put; exact ⟨u, _, rfl, c⟩
  | 2, h => cases (show some A.c_Swap = some C from h); obtain ⟨u, c⟩ := T.co_Swap; exact ⟨u, _, rfl, c⟩
  | 3, h => cases (show some A.c_Try = some C from h); obtain ⟨u, c⟩ := T.co_Try; exact ⟨u, _, rfl, c⟩
  | 4, h => cases (show some A.c_Let = some C from h); obtain ⟨u, c⟩ := T.co_Let; exact ⟨u, _, rfl, c⟩
  | 5, h => cases (show some A.c_Leave = some C from h); obtain ⟨u, c⟩ := T.co_Leave; exact ⟨u, _, rfl, c⟩
  | 6, h => cases (show some A.c_Return = some C from h); obtain ⟨u, c⟩ := T.co_Return; exact ⟨u, _, rfl, c⟩
  | 7, h => cases (show some A.c_If = some C from h); obtain ⟨u, c⟩ := T.co_If; exact ⟨u, _, rfl, c⟩
  | 8, h => cases (show some A.c_Loop = some C from h); obtain ⟨u, c⟩ := T.co_Loop; exact ⟨u, _, rfl, c⟩
  | 9, h => cases (show some A.c_Joined = some C from h); obtain ⟨u, c⟩ := T.co_Joined; exact ⟨u, _, rfl, c⟩
  | n + 10, h => cases h
theorem in_go : ∀ k < 10, ∀ z, kwords[k]? = some z → inV (.str z) [.str "look", .str "put", .str "swap", .str "try", .str "let", .str "if"] = goK k := by
  intro k hk z hz
  have h : (List.range 10).all (fun k => (kwords[k]?.map fun z => inV (.str z) [.str "look", .str "put", .str "swap", .str "try", .str "let", .str "if"] == goK k).getD true) = true := by decide +kernel
  have := List.all_eq_true.mp h k (List.mem_range.mpr hk)
  rw [hz] at this
  exact beq_iff_eq.mp this
theorem k_lt {k : Nat} {C : Addr} (h : A.fam[k]? = some C) : k < 10 := (List.getElem?_eq_some_iff.mp h).1
def spGoes (K : PySem.W.Frag) (A : Ads) (n : Nat) : Sp := fun vs H Q _ => ∃ (p : Addr) (t : Tr), vs = [.ref p] ∧ StT K A H p t ∧ lvT t ≤ n ∧ ∀ H', Same H H' → Q (.bl (goT t)) H'
theorem goes_step (T : Txt K mg A) (n : Nat) (ih : FnOk P w K mg base CX0 (n + 1) A.a_goes_together A.d_goes_together ["part"] (spGoes K A n)) :
    FnOk P w K mg base CX0 (n + 2) A.a_goes_together A.d_goes_together ["part"] (spGoes K A (n + 1)) := by
  have nd := sc_goes_together.nd
  refine T.f_goes_together.ok sc_goes_together (fun vs H Q E h => ?_) (fun cdv A' outer s H vs Q E hr h => ?_)
  · obtain ⟨p, t, rfl, _⟩ := h
    rfl
  · obtain ⟨p, t, rfl, st, ln, q⟩ := h
    obtain ⟨bs, os, sa, sb, so⟩ := st.at
    have ro := sa.ok
    obtain ⟨C, dx, fs, ps, pr, pb, po, h1, h2, h3, h4, h5, h6, h7, h8, h9, h10, h11, h12⟩ := sa
    have fc := T.fam C (List.mem_of_getElem? h1)
    obtain ⟨u, z, hz, con⟩ := con_k T h1
    have lte := lvT_eq t
    have ate := amT_eq t
    have am40 : amT t ≤ 40 := ro.2.1
    have lb := sb.len
    have lo := so.len
    have li := amB_len t.inner
    have lo2 := amB_len t.outer
    refine ⟨_, (pss_one (ps_ret (pe_and (pe_cmpR op_in_seq (pe_con (pv 0) rfl) (pe_gR T.c_TOGETHER) (by rfl)) (pe_one (pe_callB (cr_all rfl) (by rfl) T.b_all (by decide +kernel) (pa_cons (pe_lc (own := [("one", 1)]) (g := gName 1) (tt := tYes) rfl nd (pi_tup (pe_op op_catX (pe_fld (pv 0) rfl) (pe_fld (pv 0) rfl))) (blkOk_by (N := nm_goes_together) (sc := defScope st_goes_together) (by decide +kernel)) (fun _ _ _ _ _ => (pg_name (i := 1) nd rfl (Or.inl rfl))) (fun _ _ _ _ _ => pts_nil) (fun _ _ _ _ _ => (pe_call ih (hr.mono (by omega)) (by rfl) T.m_goes_together T.k_goes_together T.v_goes_together .nil pass0 (pa_cons (pv 1) pa_nil)))) pa_nil)))))), ?_⟩
    refine ⟨_, rfl, p, C, dx, fs, _, u, rfl, h2, fc.cl, con, h11, A.u_TOGETHER, _, rfl, Or.inr (T.s_TOGETHER H), rfl, rfl, _, rfl, ?_⟩
    have iv := in_go t.k (k_lt h1) z hz
    have ge := goT_eq t
    refine ite2 (fun hin => ?_) (fun hin => ?_)
    · have hin : inV (.str z) [.str "look", .str "put", .str "swap", .str "try", .str "let", .str "if"] = true := hin
      rw [iv] at hin
      rw [hin, Bool.true_and, ← goB_app] at ge
      refine ⟨_, rfl, p, C, dx, fs, _, rfl, h2, fc.cl, fc.na _ (by decide +kernel), h7, _, rfl, p, C, dx, fs, _, rfl, h2, fc.cl, fc.na _ (by decide +kernel), h9, catX_ok h8 h10 (by rw [List.length_map, List.length_map]; exact len5000 (by omega)) fun pc H1 s1 hc => ?_⟩
      rw [← List.map_append] at hc
      have stc := (sb.app so).mv (KpT.of_same s1)
      have lvc := lvB_app t.inner t.outer
      refine ⟨pc, rfl, ⟨_, hc⟩, fun D hD => lc_it (walk_tup (K := K) (a := pc) (xs := (bs ++ os).map V.ref)) (fun i H6 => Same H1 H6 ∧ H6 D = some (.lst ((((t.inner ++ t.outer).take i).map goT).map V.bl))) ⟨same_new hD, upd_same⟩ (fun i H6 _ h => (KpT.of_same h.1).sq hc) ?_ ?_⟩
      · rintro i x H6 H7 hi ⟨s6, hd⟩ ⟨rfl, hx⟩
        rw [List.getElem?_map] at hx
        obtain ⟨r, hr2, rfl⟩ := Option.map_eq_some_iff.mp hx
        obtain ⟨v, hv, stv⟩ := stc.get hr2
        have lu : lvT v ≤ lvB (t.inner ++ t.outer) := lvB_mem (List.mem_of_getElem? hv)
        have iu := (List.getElem?_eq_some_iff.mp hv).1
        rw [List.length_append] at iu
        refine ⟨rfl, _, rfl, r, v, rfl, stv.mv (KpT.of_same s6), by omega, fun H8 s8 => ⟨_, s8 _ _ hd, ?_, ?_, ?_⟩⟩
        · rw [List.length_map, List.length_map, List.length_take]
          exact lt5000 (by omega)
        · intro b o e
          rw [upd_ne (ne_of_none e hD)]
          exact s8 _ _ (s6 _ _ e)
        · rw [upd_same, List.take_add_one, hv, List.map_append, List.map_append]
          rfl
      · rintro H6 ⟨s6, hd⟩
        rw [List.take_of_length_le (by simp only [List.length_map, List.length_append]; omega)] at hd
        refine ⟨D, _, rfl, SqL.of hd, ?_⟩
        have e : ((t.inner ++ t.outer).map goT).all id = goT t := by
          rw [ge, goB_all, List.all_map]
          rfl
        rw [e]
        exact q H6 (s1.trans s6)
    · have hin : ¬ inV (.str z) [.str "look", .str "put", .str "swap", .str "try", .str "let", .str "if"] = true := hin
      rw [iv] at hin
      have hin := Bool.eq_false_iff.mpr hin
      rw [hin, Bool.false_and] at ge
      show Q (.bl false) H
      rw [← ge]
      exact q H (Same.refl H)
theorem goes_n (T : Txt K mg A) : ∀ n : Nat, FnOk P w K mg base CX0 (n + 1) A.a_goes_together A.d_goes_together ["part"] (spGoes K A n)
  | 0 => FnOk.vac fun vs H Q E h => by
    obtain ⟨p, t, _, _, h, _⟩ := h
    have := lvT_pos t
    omega
  | n + 1 => goes_step T n (goes_n T n)
theorem ok_goes_together (T : Txt K mg A) : FnOk P w K mg base CX0 6 A.a_goes_together A.d_goes_together ["part"] (spGoes K A 5) := goes_n T 5
def spCkB (K : PySem.W.Frag) (A : Ads) (f : Tr → Prop) : Sp := fun vs H Q _ => ∃ (pb : Addr) (bs : List Addr) (ts : List Tr), vs = [.ref pb] ∧ SqT K H pb (bs.map V.ref) ∧ StsT K A H bs ts ∧ (∀ t ∈ ts, f t) ∧ ∀ H', Same H H' → Q .non H'
theorem ok_check_body (T : Txt K mg A) : FnOk P w K mg base CX0 1 A.a_check_body A.d_check_body ["value"] (spCkB K A fun _ => True) := by
  have nd := sc_check_body.nd
  refine T.f_check_body.ok sc_check_body (fun vs H Q E h => ?_) (fun cdv A' outer s H vs Q E hr h => ?_)
  · obtain ⟨pb, bs, ts, rfl, _⟩ := h
    rfl
  · obtain ⟨pb, bs, ts, rfl, hb, st, _, q⟩ := h
    refine ⟨_, (pss_cons (ps_if (pt_not (pt_val (pe_callB call_isi (by rfl) T.b_isinstance (by decide +kernel) (pa_cons (pv 0) (pa_cons (pe_ty "tuple" T.b_tuple) pa_nil))))) (pss_one ps_never) pss_nil)
      (pss_one (ps_for PassesOwn.never rfl (pi_enumT (by rfl) T.b_enumerate (pa_cons (pv 0) pa_nil)) (pg_tup rfl (pgs_cons (pg_name (i := 1) nd rfl (Or.inl rfl)) (pgs_cons (pg_name (i := 2) nd rfl (Or.inl rfl)) pgs_nil))) (pss_one (ps_if (pt_not (pt_val (pe_callB call_isi (by rfl) T.b_isinstance (by decide +kernel) (pa_cons (pv 2) (pa_cons (pe_gR T.m_Statement) pa_nil))))) (pss_one ps_never) pss_nil))))), ?_⟩
    refine ⟨_, rfl, _, _, _, _, _, rfl, .ty _, sqt_ty hb, kit7 .tup .tup (by decide), _, rfl, ?_⟩
    refine ⟨_, rfl, pb, _, rfl, hb, for_it walk_enumT (fun i σ H2 => Same H H2 ∧ ∃ v1 v2, σ = [some (.ref pb), v1, v2]) ⟨Same.refl _, _, _, rfl⟩ (fun i σ H2 _ h => (KpT.of_same h.1).sq hb) ?_ ?_⟩
    · rintro i x σ H1 H2 hi ⟨s1, v1, v2, rfl⟩ ⟨t, y, rfl, ht, rfl, hy⟩
      rw [List.getElem?_map] at hy
      obtain ⟨r, hr2, rfl⟩ := Option.map_eq_some_iff.mp hy
      obtain ⟨u, hu, stu⟩ := st.get hr2
      have s2 := s1.trans (same_new (o := .tup [.int (i : Nat), .ref r]) ht)
      obtain ⟨b1, o1, sa, _, _⟩ := (stu.mv (KpT.of_same s2)).at
      obtain ⟨C, dx, fs, ps, pr, pb2, po, h1, h2, h3⟩ := sa
      have mC := List.mem_of_getElem? h1
      refine ⟨t, _, rfl, SqT.of upd_same, rfl, _, _, rfl, _, _, rfl, rfl, ?_⟩
      refine ⟨_, rfl, _, _, _, _, _, rfl, .own _, (T.fam C mC).ty _ _ _ _ h2, (T.sub C mC).2, _, rfl, ?_⟩
      exact ⟨s2, _, _, rfl⟩
    · rintro σ H2 ⟨s2, v1, v2, rfl⟩
      exact q H2 s2
theorem ok_check_joined (T : Txt K mg A) : FnOk P w K mg base CX0 7 A.a_check_joined A.d_check_joined ["value"] (spCkB K A fun t => goT t = true) := by
  have nd := sc_check_joined.nd
  refine T.f_check_joined.ok sc_check_joined (fun vs H Q E h => ?_) (fun cdv A' outer s H vs Q E hr h => ?_)
  · obtain ⟨pb, bs, ts, rfl, _⟩ := h
    rfl
  · obtain ⟨pb, bs, ts, rfl, hb, st, hg, q⟩ := h
    refine ⟨_, (pss_cons (ps_if (pt_not (pt_val (pe_callB call_isi (by rfl) T.b_isinstance (by decide +kernel) (pa_cons (pv 0) (pa_cons (pe_ty "tuple" T.b_tuple) pa_nil))))) (pss_one ps_never) pss_nil)
      (pss_one (ps_for PassesOwn.never rfl (pi_enumT (by rfl) T.b_enumerate (pa_cons (pv 0) pa_nil)) (pg_tup rfl (pgs_cons (pg_name (i := 1) nd rfl (Or.inl rfl)) (pgs_cons (pg_name (i := 2) nd rfl (Or.inl rfl)) pgs_nil))) (pss_one (ps_if (PW.pt (pw_or (pt_not (pt_val (pe_callB call_isi (by rfl) T.b_isinstance (by decide +kernel) (pa_cons (pv 2) (pa_cons (pe_gR T.m_Statement) pa_nil))))) (pw_or1 (pt_not (pt_val (pe_call (ok_goes_together T) (hr.mono (by decide)) (by rfl) T.m_goes_together T.k_goes_together T.v_goes_together .nil pass0 (pa_cons (pv 2) pa_nil))))))) (pss_one ps_never) pss_nil))))), ?_⟩
    refine ⟨_, rfl, _, _, _, _, _, rfl, .ty _, sqt_ty hb, kit7 .tup .tup (by decide), _, rfl, ?_⟩
    refine ⟨_, rfl, pb, _, rfl, hb, for_it walk_enumT (fun i σ H2 => Same H H2 ∧ ∃ v1 v2, σ = [some (.ref pb), v1, v2]) ⟨Same.refl _, _, _, rfl⟩ (fun i σ H2 _ h => (KpT.of_same h.1).sq hb) ?_ ?_⟩
    · rintro i x σ H1 H2 hi ⟨s1, v1, v2, rfl⟩ ⟨t, y, rfl, ht, rfl, hy⟩
      rw [List.getElem?_map] at hy
      obtain ⟨r, hr2, rfl⟩ := Option.map_eq_some_iff.mp hy
      obtain ⟨u, hu, stu⟩ := st.get hr2
      have s2 := s1.trans (same_new (o := .tup [.int (i : Nat), .ref r]) ht)
      have stu2 := stu.mv (KpT.of_same s2)
      obtain ⟨b1, o1, sa, _, _⟩ := stu2.at
      have ro := sa.ok
      obtain ⟨C, dx, fs, ps, pr, pb2, po, h1, h2, h3⟩ := sa
      have mC := List.mem_of_getElem? h1
      refine ⟨t, _, rfl, SqT.of upd_same, rfl, _, _, rfl, _, _, rfl, rfl, ?_⟩
      refine ⟨_, rfl, _, _, _, _, _, rfl, .own _, (T.fam C mC).ty _ _ _ _ h2, (T.sub C mC).2, _, rfl, ?_⟩
      refine ⟨_, rfl, r, u, rfl, stu2, ro.2.2.2.1, fun H3 s3 => ⟨_, rfl, ?_⟩⟩
      rw [hg u (List.mem_of_getElem? hu)]
      exact ⟨s2.trans s3, _, _, rfl⟩
    · rintro σ H2 ⟨s2, v1, v2, rfl⟩
      exact q H2 s2
end
end K07
set_option Elab.async false
set_option linter.all false
set_option maxRecDepth 100000
set_option maxHeartbeats 4000000
namespace K07
open PySem PySem.Spec PyProof.Rows L2 Mo
section
variable {w : World} {K : PySem.W.Frag} {mg : Str → Option Value} {base : Heap} {A : Ads}
theorem rowsOf_T {H : Hp} {bs os : List Addr} {t : Tr} (b : StsT K A H bs t.inner) (o : StsT K A H os t.outer) : rowsOf t.line (partsOf bs t.inner) (partsOf os t.outer) = rowsT t := by
  obtain ⟨_, _, _, b4, _⟩ := b.sums
  obtain ⟨_, _, _, o4, o5⟩ := o.sums
  rw [rowsT_eq]
  unfold rowsOf
  rw [b4, o4]
  cases e : t.outer with
  | nil =>
    rw [e] at o5
    rw [if_pos (o5.mpr rfl)]
    rfl
  | cons u us =>
    rw [e] at o5
    rw [if_neg (fun z => by cases o5.mp z)]
    rfl
theorem mk_st {H H' : Hp} {a C dx ps pr pb po : Addr} {fs : List (Str × V)} {t : Tr} {bs os : List Addr} (hk : A.fam[t.k]? = some C) (h1 : H' a = some (.ins C dx fs))
    (f1 : fs.lookup ("size" : Str) = some (.ref ps)) (f2 : fs.lookup ("rows" : Str) = some (.ref pr)) (f3 : fs.lookup ("body" : Str) = some (.ref pb)) (f4 : fs.lookup ("otherwise" : Str) = some (.ref po)) (f5 : fs.lookup ("WORD" : Str) = none)
    (b : StsT K A H bs t.inner) (o : StsT K A H os t.outer) (hb : SqT K H' pb (bs.map V.ref)) (ho : SqT K H' po (os.map V.ref)) (k : KpT H H')
    (h2 : H' ps = some (.tup [.int (1 + (sumA (partsOf bs t.inner) + sumA (partsOf os t.outer)) : Nat), .int (1 + maxL (partsOf bs t.inner ++ partsOf os t.outer) : Nat)]))
    (h3 : H' pr = some (.tup ((rowsOf t.line (partsOf bs t.inner) (partsOf os t.outer)).map V.str))) (h39 : amB t.inner + amB t.outer ≤ 39) (h4 : max (lvB t.inner) (lvB t.outer) ≤ 4) (ll : t.line.length ≤ 200) (la : AlnT t.line) (ff : StF K H' a (fdT t)) : StT K A H' a t := by
  obtain ⟨_, b2, b3, b4, _⟩ := b.sums
  obtain ⟨_, o2, o3, o4, o5⟩ := o.sums
  have am : amT t = 1 + (sumA (partsOf bs t.inner) + sumA (partsOf os t.outer)) := by rw [amT_eq, b2, o2]
  have lv : lvT t = 1 + maxL (partsOf bs t.inner ++ partsOf os t.outer) := by rw [lvT_eq, maxL_app, b3, o3]
  have rr := rowsOf_ok ll la b.parts o.parts (by rw [b2, o2]; exact h39) (by rw [maxL_app, b3, o3]; exact h4)
  rw [rowsOf_T b o] at h3
  rw [rowsOf_T b o, ← am, ← lv] at rr
  rw [← am, ← lv] at h2
  exact .mk ⟨C, dx, fs, ps, pr, pb, po, hk, h1, f1, h2, f2, h3, f3, hb, f4, ho, f5, rr⟩ ff (b.mv k) (o.mv k)
def spHold (K : PySem.W.Frag) (A : Ads) (C : Addr) (f : List Tr → Tr) (g : Tr → Prop) : Sp := fun vs H Q _ => ∃ (a dx pb : Addr) (bs : List Addr) (ts : List Tr), vs = [.ref a, .ref pb] ∧ H a = some (.ins C dx []) ∧ SqT K H pb (bs.map V.ref) ∧ StsT K A H bs ts ∧ (∀ t ∈ ts, g t) ∧ amB ts ≤ 39 ∧ lvB ts ≤ 4 ∧ ∀ H', StT K A H' a (f ts) → KeepBut a H H' → Q .non H'
theorem ok_Loop___init__ (T : Txt K mg A) : FnOk P w K mg base CX0 5 A.a_Loop___init__ A.d_Loop___init__ ["self", "body"] (spHold K A A.c_Loop .loop (fun _ => True)) := by
  have nd := ss_Loop___init__.nd
  refine T.f_Loop___init__.ok ss_Loop___init__ (ar := _) rfl rfl rfl (fun vs H Q E h => ?_) (fun cdv A' outer s H vs Q E hr S h => ?_)
  · obtain ⟨a, dx, pb, bs, ts, rfl, _⟩ := h
    rfl
  · obtain ⟨a, dx, pb, bs, ts, rfl, ha, hb, st, hg, h39, h4, k⟩ := h
    have mem : A.c_Loop ∈ A.fam := List.mem_of_getElem? (show A.fam[8]? = some A.c_Loop from rfl)
    have fc := T.fam _ mem
    refine ⟨_, (psa_cons (ps_expr (pe_call (ok_check_body T) (hr.mono (by decide)) (by rfl) T.m_check_body T.k_check_body T.v_check_body .nil pass0 (pa_cons (pv 1) pa_nil)))
      (psa_sup S ((ok_Statement___init__ T).raw (dvs := [.ref A.x_Statement___init___2]) T.vd_Statement___init___3 (.cons rfl .nil)) (hr.mono (by decide)) pass0 (pa_cons pe_str (pa_cons (pe_tup pa_nil) (pa_cons (pv 1) pa_nil))) (psa_any pss_nil) T.b_super T.fi_Statement___init__ T.ft_Statement___init__)), ?_⟩
    refine ⟨_, rfl, pb, bs, ts, rfl, hb, st, hg, fun H1 s1 => ?_⟩
    refine ⟨a, A.c_Loop, dx, [], rfl, s1 _ _ ha, T.slf _ mem, T.sup _ mem, fun q hq => ?_⟩
    have sq := s1.trans (same_new (o := .met A.a_Statement___init__ a) hq)
    refine ⟨by show 0 ≤ sizeLine; decide, fun pm hpm => ?_⟩
    have sm := sq.trans (same_new (o := .tup []) hpm)
    have hm : (upd (upd H1 q (.met A.a_Statement___init__ a)) pm (.tup [])) q = some (.met A.a_Statement___init__ a) := same_new hpm _ _ upd_same
    have km := KpT.of_same sm
    obtain ⟨e1, e2, e3, e4, e5⟩ := st.sums
    refine ⟨_, rfl, hm, a, A.c_Loop, dx, pm, pb, A.x_Statement___init___2, _, partsOf bs ts, [], rfl, mem, sm _ _ ha, by rw [e1]; exact km.sq hb, T.e_Statement___init___2 _, (st.mv km).parts, fun _ h => (List.not_mem_nil h).elim, by rw [e2]; exact h39, by rw [List.append_nil, e3]; exact h4, by decide, aln_by (by decide +kernel), fun ps pr H' h1 h2 h3 kb => ?_⟩
    have kn := KpT.new (sm _ _ ha) kb
    refine k _ (mk_st (t := .loop ts) (H := H) (bs := bs) (os := []) rfl h1 rfl rfl rfl rfl rfl st .nil (kn.sq (km.sq hb)) (T.e_Statement___init___2 _) (km.trans kn) h2 h3 (by show amB ts + amB [] ≤ 39; rw [amB_nil]; omega) (by show max (lvB ts) (lvB []) ≤ 4; rw [lvB_nil]; omega) (by show ("loop" : Str).length ≤ 200; decide) (aln_by (by show ("loop" : Str).cps.toList.all Aln = true; decide +kernel)) ⟨A.c_Loop, dx, _, pm, h1, (fun z => nomatch z), rfl, rfl, rfl, SqT.of (kb _ _ (ne_of_none (sq _ _ ha) hpm).symm upd_same), all0⟩) ?_
    intro b o nb e
    exact kb _ _ nb (sm _ _ e)
theorem ok_Joined___init__ (T : Txt K mg A) : FnOk P w K mg base CX0 8 A.a_Joined___init__ A.d_Joined___init__ ["self", "body"] (spHold K A A.c_Joined .joined (fun t => goT t = true)) := by
  have nd := ss_Joined___init__.nd
  refine T.f_Joined___init__.ok ss_Joined___init__ (ar := _) rfl rfl rfl (fun vs H Q E h => ?_) (fun cdv A' outer s H vs Q E hr S h => ?_)
  · obtain ⟨a, dx, pb, bs, ts, rfl, _⟩ := h
    rfl
  · obtain ⟨a, dx, pb, bs, ts, rfl, ha, hb, st, hg, h39, h4, k⟩ := h
    have mem : A.c_Joined ∈ A.fam := List.mem_of_getElem? (show A.fam[9]? = some A.c_Joined from rfl)
    have fc := T.fam _ mem
    refine ⟨_, (psa_cons (ps_expr (pe_call (ok_check_joined T) (hr.mono (by decide)) (by rfl) T.m_check_joined T.k_check_joined T.v_check_joined .nil pass0 (pa_cons (pv 1) pa_nil)))
      (psa_sup S ((ok_Statement___init__ T).raw (dvs := [.ref A.x_Statement___init___2]) T.vd_Statement___init___3 (.cons rfl .nil)) (hr.mono (by decide)) pass0 (pa_cons pe_str (pa_cons (pe_tup pa_nil) (pa_cons (pv 1) pa_nil))) (psa_any pss_nil) T.b_super T.fi_Statement___init__ T.ft_Statement___init__)), ?_⟩
    refine ⟨_, rfl, pb, bs, ts, rfl, hb, st, hg, fun H1 s1 => ?_⟩
    refine ⟨a, A.c_Joined, dx, [], rfl, s1 _ _ ha, T.slf _ mem, T.sup _ mem, fun q hq => ?_⟩
    have sq := s1.trans (same_new (o := .met A.a_Statement___init__ a) hq)
    refine ⟨by show 0 ≤ sizeLine; decide, fun pm hpm => ?_⟩
    have sm := sq.trans (same_new (o := .tup []) hpm)
    have hm : (upd (upd H1 q (.met A.a_Statement___init__ a)) pm (.tup [])) q = some (.met A.a_Statement___init__ a) := same_new hpm _ _ upd_same
    have km := KpT.of_same sm
    obtain ⟨e1, e2, e3, e4, e5⟩ := st.sums
    refine ⟨_, rfl, hm, a, A.c_Joined, dx, pm, pb, A.x_Statement___init___2, _, partsOf bs ts, [], rfl, mem, sm _ _ ha, by rw [e1]; exact km.sq hb, T.e_Statement___init___2 _, (st.mv km).parts, fun _ h => (List.not_mem_nil h).elim, by rw [e2]; exact h39, by rw [List.append_nil, e3]; exact h4, by decide, aln_by (by decide +kernel), fun ps pr H' h1 h2 h3 kb => ?_⟩
    have kn := KpT.new (sm _ _ ha) kb
    refine k _ (mk_st (t := .joined ts) (H := H) (bs := bs) (os := []) rfl h1 rfl rfl rfl rfl rfl st .nil (kn.sq (km.sq hb)) (T.e_Statement___init___2 _) (km.trans kn) h2 h3 (by show amB ts + amB [] ≤ 39; rw [amB_nil]; omega) (by show max (lvB ts) (lvB []) ≤ 4; rw [lvB_nil]; omega) (by show ("joined" : Str).length ≤ 200; decide) (aln_by (by show ("joined" : Str).cps.toList.all Aln = true; decide +kernel)) ⟨A.c_Joined, dx, _, pm, h1, (fun z => nomatch z), rfl, rfl, rfl, SqT.of (kb _ _ (ne_of_none (sq _ _ ha) hpm).symm upd_same), all0⟩) ?_
    intro b o nb e
    exact kb _ _ nb (sm _ _ e)
def spIf (K : PySem.W.Frag) (A : Ads) : Sp := fun vs H Q _ => ∃ (a dx pb po : Addr) (l r : Str) (bs os : List Addr) (ts us : List Tr), vs = [.ref a, .str l, .str r, .ref pb, .ref po] ∧ H a = some (.ins A.c_If dx []) ∧ OperT l ∧ OperT r ∧ SqT K H pb (bs.map V.ref) ∧ StsT K A H bs ts ∧ SqT K H po (os.map V.ref) ∧ StsT K A H os us ∧ amB ts + amB us ≤ 39 ∧ max (lvB ts) (lvB us) ≤ 4 ∧ ∀ H', StT K A H' a (.cond l r ts us) → KeepBut a H H' → Q .non H'
theorem ok_If___init__ (T : Txt K mg A) : FnOk P w K mg base CX0 5 A.a_If___init__ A.d_If___init__ ["self", "left", "right", "body", "otherwise"] (spIf K A) := by
  have nd := ss_If___init__.nd
  refine T.f_If___init__.ok ss_If___init__ (ar := _) rfl rfl rfl (fun vs H Q E h => ?_) (fun cdv A' outer s H vs Q E hr S h => ?_)
  · obtain ⟨a, dx, pb, po, l, r, bs, os, ts, us, rfl, _⟩ := h
    rfl
  · obtain ⟨a, dx, pb, po, z0, z1, bs, os, ts, us, rfl, ha, hz0, hz1, hb, st, ho, so, h39, h4, k⟩ := h
    have mem : A.c_If ∈ A.fam := List.mem_of_getElem? (show A.fam[7]? = some A.c_If from rfl)
    have fc := T.fam _ mem
    refine ⟨_, (psa_cons (ps_expr (pe_call (ok_check_operand T) (hr.mono (by decide)) (by rfl) T.m_check_operand T.k_check_operand T.v_check_operand .nil pass0 (pa_cons (pv 1) pa_nil)))
      (psa_cons (ps_expr (pe_call (ok_check_operand T) (hr.mono (by decide)) (by rfl) T.m_check_operand T.k_check_operand T.v_check_operand .nil pass0 (pa_cons (pv 2) pa_nil)))
      (psa_cons (ps_expr (pe_call (ok_check_body T) (hr.mono (by decide)) (by rfl) T.m_check_body T.k_check_body T.v_check_body .nil pass0 (pa_cons (pv 3) pa_nil)))
      (psa_cons (ps_expr (pe_call (ok_check_body T) (hr.mono (by decide)) (by rfl) T.m_check_body T.k_check_body T.v_check_body .nil pass0 (pa_cons (pv 4) pa_nil)))
      (psa_sup S ((ok_Statement___init__ T).raw (dvs := []) T.vd_Statement___init___4 .nil) (hr.mono (by decide)) pass0 (pa_cons (pe_fs (.cons pe_str (.cons (pe_fmt (pv 1)) (.cons pe_str (.cons (pe_fmt (pv 2)) .nil))))) (pa_cons (pe_tup (pa_cons (pv 1) (pa_cons (pv 2) pa_nil))) (pa_cons (pv 3) (pa_cons (pv 4) pa_nil)))) (psa_any (pss_cons (ps_fld (pv 0) (pv 1) rfl)
      (pss_one (ps_fld (pv 0) (pv 2) rfl)))) T.b_super T.fi_Statement___init__ T.ft_Statement___init__))))), ?_⟩
    refine ⟨_, rfl, .str z0, .str, rfl, hz0.th H, hz0.1, fun H1 s1 => ?_⟩
    have q1 := s1
    refine ⟨_, rfl, .str z1, .str, rfl, hz1.th H1, hz1.1, fun H2 s2 => ?_⟩
    have q2 := q1.trans s2
    refine ⟨_, rfl, pb, bs, ts, rfl, (KpT.of_same q2).sq hb, st.mv (KpT.of_same q2), fun _ _ => trivial, fun H3 s3 => ?_⟩
    have q3 := q2.trans s3
    refine ⟨_, rfl, po, os, us, rfl, (KpT.of_same q3).sq ho, so.mv (KpT.of_same q3), fun _ _ => trivial, fun H4 s4 => ?_⟩
    have q4 := q3.trans s4
    refine ⟨a, A.c_If, dx, [], rfl, q4 _ _ ha, T.slf _ mem, T.sup _ mem, fun q hq => ?_⟩
    have sq := q4.trans (same_new (o := .met A.a_Statement___init__ a) hq)
    have l0 : (Str.empty).length = 0 := rfl
    have l1 : (" is " : Str).length = 4 := rfl
    have l2 : ("if " : Str).length = 3 := rfl
    have mz0 := hz0.2.2
    have mz1 := hz1.2.2
    refine ⟨("if " : Str), rfl, (len5000 (by simp only [app_length, l0, l1, l2]; omega)), _, rfl, Or.inl ⟨z0, rfl, len5000 (by omega), z0, rfl, (len5000 (by simp only [app_length, l0, l1, l2]; omega)), (" is " : Str), rfl, (len5000 (by simp only [app_length, l0, l1, l2]; omega)), _, rfl, Or.inl ⟨z1, rfl, len5000 (by omega), z1, rfl, (len5000 (by simp only [app_length, l0, l1, l2]; omega)), _, rfl, _, rfl, (by show 2 ≤ sizeLine; decide), fun pm hpm => ?_⟩⟩⟩
    have sm := sq.trans (same_new (o := .tup [.str z0, .str z1]) hpm)
    have hm : (upd (upd H4 q (.met A.a_Statement___init__ a)) pm (.tup [.str z0, .str z1])) q = some (.met A.a_Statement___init__ a) := same_new hpm _ _ upd_same
    have km := KpT.of_same sm
    obtain ⟨e1, e2, e3, e4, e5⟩ := st.sums
    obtain ⟨o1, o2, o3, o4, o5⟩ := so.sums
    have ll : ("if " ++ z0 ++ " is " ++ z1 : Str).length ≤ 200 := by
      simp only [app_length, l1, l2]
      omega
    have la : AlnT ("if " ++ z0 ++ " is " ++ z1 : Str) := aln_app (aln_app (aln_app (aln_by (by decide +kernel)) hz0.2.1) (aln_by (by decide +kernel))) hz1.2.1
    refine ⟨_, rfl, _, rfl, hm, a, A.c_If, dx, pm, pb, po, _, partsOf bs ts, partsOf os us, rfl, mem, sm _ _ ha, by rw [e1]; exact km.sq hb, by rw [o1]; exact km.sq ho, (st.mv km).parts, (so.mv km).parts, by rw [e2, o2]; exact h39, by rw [maxL_app, e3, o3]; exact h4, ?_, ?_, fun ps pr H' h1 h2 h3 kb => ?_⟩
    · rw [emp_app]
      exact ll
    · rw [emp_app]
      exact la
    rw [emp_app] at h3
    refine ⟨_, rfl, _, rfl, a, _, dx, _, rfl, h1, fc.cl, fc.na _ (by decide +kernel), (by show 7 < 1000; decide), ?_⟩
    refine ⟨_, rfl, _, rfl, a, _, dx, _, rfl, upd_same, fc.cl, fc.na _ (by decide +kernel), (by show 8 < 1000; decide), ?_⟩
    have n1 : ps ≠ a := ne_of h2 h1 (by intro z; cases z)
    have n2 : pr ≠ a := ne_of h3 h1 (by intro z; cases z)
    have n3 : pm ≠ a := (ne_of_none (sq _ _ ha) hpm).symm
    have kf : KeepBut a H (upd (upd H' a (.ins A.c_If dx [("size", .ref ps), ("mentioned", .ref pm), ("body", .ref pb), ("otherwise", .ref po), ("cell", .non), ("into", .non), ("rows", .ref pr), ("left", .str z0)])) a (.ins A.c_If dx [("size", .ref ps), ("mentioned", .ref pm), ("body", .ref pb), ("otherwise", .ref po), ("cell", .non), ("into", .non), ("rows", .ref pr), ("left", .str z0), ("right", .str z1)])) := by
      intro b o nb e
      rw [upd_ne nb, upd_ne nb]
      exact kb _ _ nb (sm _ _ e)
    have kn := KpT.new ha kf
    exact k _ (mk_st (t := .cond z0 z1 ts us) (H := H) (bs := bs) (os := os) rfl upd_same rfl rfl rfl rfl rfl st so (kn.sq hb) (kn.sq ho) kn ((upd_ne n1).trans ((upd_ne n1).trans h2)) ((upd_ne n2).trans ((upd_ne n2).trans h3)) h39 h4 ll la ⟨A.c_If, dx, _, pm, upd_same, (fun z => nomatch z), rfl, rfl, rfl, SqT.of ((upd_ne n3).trans ((upd_ne n3).trans (kb _ _ n3 upd_same))), all2 rfl rfl⟩) kf
end
end K07
set_option Elab.async false
set_option linter.all false
set_option maxRecDepth 100000
set_option maxHeartbeats 4000000
namespace K07
open PySem PySem.Spec PyProof.Rows L2 Mo
/-! every joined body holds what may be joined -/
mutual
def okT : Tr → Bool
  | .one _ _ _ => true
  | .cond _ _ b e => okB b && okB e
  | .loop b => okB b
  | .joined b => goB b && okB b
def okB : List Tr → Bool
  | [] => true
  | t :: ts => okT t && okB ts
end
theorem okB_nil : okB [] = true := by rw [okB]
theorem okB_cons (t : Tr) (ts : List Tr) : okB (t :: ts) = (okT t && okB ts) := by rw [okB]
theorem okB_all : ∀ ts : List Tr, okB ts = ts.all okT
  | [] => by rw [okB_nil]; rfl
  | t :: ts => by rw [okB_cons, okB_all ts]; rfl
theorem okT_in {t : Tr} (h : okT t = true) : okB t.inner = true ∧ okB t.outer = true := by
  cases t with
  | one k xs l => exact ⟨okB_nil, okB_nil⟩
  | cond l r b e =>
    rw [okT, Bool.and_eq_true] at h
    exact h
  | loop b =>
    rw [okT] at h
    exact ⟨h, okB_nil⟩
  | joined b =>
    rw [okT, Bool.and_eq_true] at h
    exact ⟨h.2, okB_nil⟩
abbrev scHold : Scope := { kind := .function, names := [(".0", NameKind.«local»), ("_law_side", NameKind.«local»), ("tuple", .globalImplicit), ("_law_source_here", .cell)], isGenerator := false, isCoroutine := false }
def rTupOf (K : PySem.W.Frag) : List V → Hp → VK → Prop := fun xs H Q => ∃ p ys, xs = [.ref p] ∧ ((SqL K H p ys ∧ ∀ l, H l = none → Q (.ref l) (upd H l (.tup ys))) ∨ (SqT K H p ys ∧ Q (.ref p) H))
theorem _root_.Mo.Src.kp {H H' : Hp} {a : Addr} (s : Src H a) (k : KeepBut a H H') : KpT H H' := by
  obtain ⟨x, y, c, h, _⟩ := s
  exact KpT.lst h k
section
variable {w : World} {K : PySem.W.Frag} {mg : Str → Option Value} {base : Heap} {A : Ads}
/-- statements made of trees, one after the other, in a list -/
theorem made_lc {J : It} {n : Nat} {G : Hp → Prop} {Y : Nat → Hp → V → Hp → Prop} (W : Walk J n G Y) {H6 : Hp} {a : Addr} {pbs : List Addr} {ts : List Tr} (hY : ∀ i H x H', Y i H x H' → H' = H ∧ (pbs.map V.ref)[i]? = some x) (hn : n = pbs.length) (hG : ∀ H', KeepBut a H6 H' → G H')
    (trb : TrsAt K H6 pbs ts) (src : Src H6 a) {σ : L2.St} {vs : List Nat} {D : Addr} {Qd : Hp → Prop} {te : TE} {i6 : Nat} (hD : H6 D = none)
    (hm : ∀ (r : Addr) (t : Tr) (H7 : Hp) (R : VK), t ∈ ts → TrAt K H7 r t → Src H7 a → (∀ (q : Addr) (H8 : Hp), StT K A H8 q t → Src H8 a → KeepBut a H7 H8 → R (.ref q) H8) → te ((wipe σ vs).set i6 (some (.ref r))) H7 R)
    (hw : ∀ x, wipe ((wipe σ vs).set i6 x) vs = wipe σ vs) (hl : ts.length ≤ 1000) (hq : ∀ (H7 : Hp) (qs : List Addr), KeepBut a H6 H7 → Src H7 a → H7 D = some (.lst (qs.map V.ref)) → StsT K A H7 qs ts → Qd H7) :
    ∃ W : Nat → Nat → Hp → Prop, (∃ m, W 0 m (upd H6 D (.lst []))) ∧ ∀ i m H, W i m H →
      (J.stop i H ∧ Qd H) ∨ (J.go i H ∧ ∃ Nx : Hp → Prop, (∀ H', Nx H' → ∃ m', m' < m ∧ W (i + 1) m' H') ∧ ∀ x H', J.yld i H x H' → gName i6 x (wipe σ vs) H' fun σ2 H2 => wipe σ2 vs = wipe σ vs ∧ tYes σ2 H2 fun b H3 =>
        if b = true then te σ2 H3 fun y H4 => ∃ acc, H4 D = some (.lst acc) ∧ acc.length < sizeLine ∧ Nx (upd H4 D (.lst (acc ++ [y]))) else Nx H3) := by
  have nDa : D ≠ a := src.fresh hD
  have len := trb.len
  refine lc_it W (g := gName i6) (tt := tYes) (te := te) (fun i H7 => KeepBut a H6 H7 ∧ Src H7 a ∧ ∃ qs : List Addr, H7 D = some (.lst (qs.map V.ref)) ∧ StsT K A H7 qs (ts.take i)) ⟨KeepBut.of_same (same_new hD), src.same (same_new hD), [], upd_same, .nil⟩ (fun i H7 _ h => hG H7 h.1) ?_ ?_
  · rintro i x H1 H2 hi ⟨kb, s7, qs, hd, st⟩ hy
    obtain ⟨rfl, hx⟩ := hY _ _ _ _ hy
    rw [List.getElem?_map] at hx
    obtain ⟨r, hr, rfl⟩ := Option.map_eq_some_iff.mp hx
    obtain ⟨t, ht, trt⟩ := trb.get hr
    refine ⟨hw _, ?_⟩
    refine hm r t H2 _ (List.mem_of_getElem? ht) (trt.mv (src.kp kb)) s7 fun q H8 st8 s8 kb8 => ?_
    have hd8 := kb8 _ _ nDa hd
    have ll := st.len
    rw [List.length_take] at ll
    have il := (List.getElem?_eq_some_iff.mp ht).1
    refine ⟨_, hd8, ?_, ?_, s8.upd nDa, qs ++ [q], ?_, ?_⟩
    · rw [List.length_map]
      exact lt5000 (by omega)
    · intro b o nb e
      rw [upd_ne (ne_of_none e hD)]
      exact kb8 _ _ nb (kb _ _ nb e)
    · rw [upd_same, List.map_append]
      rfl
    · rw [List.take_add_one, ht]
      have k2 := KpT.lst hd8 (KeepBut.upd D H8 (.lst (qs.map V.ref ++ [.ref q])))
      exact ((st.mv (s7.kp kb8)).mv k2).app (.cons (st8.mv k2) .nil)
  · rintro H7 ⟨kb, s7, qs, hd, st⟩
    rw [List.take_of_length_le (by omega)] at st
    exact hq H7 qs kb s7 hd st
theorem one_st {H : Hp} {q : Addr} {k : Nat} {xs : List Str} {line : Str} (h0 : StAt K A H q ⟨k, 1, 1, [line]⟩ [] [] ∧ StF K H q (fdO k xs)) : StT K A H q (.one k xs line) := by
  obtain ⟨h, ff⟩ := h0
  refine .mk (bs := []) (os := []) ?_ ff .nil .nil
  have e : sdT (.one k xs line) = ⟨k, 1, 1, [line]⟩ := by simp [sdT, amT, lvT, rowsT, Tr.k]
  rw [e]
  exact h
theorem made_fin {H H2 H' : Hp} {a x dx C : Addr} (src : Src H2 a) (kb : KeepBut a H H2) (nx : H2 x = none) (ndx : H2 dx = none) (nex : dx ≠ x) (h : KeepBut x (upd (upd H2 dx (.own x)) x (.ins C dx [])) H') (hn : x ≠ a) : Src H' a ∧ KeepBut a H H' := by
  have k2 : ∀ b o, H2 b = some o → H' b = some o := by
    intro b o e
    have n1 : b ≠ x := ne_of_none e nx
    have n2 : b ≠ dx := ne_of_none e ndx
    refine h b o n1 ?_
    rw [upd_ne n1, upd_ne n2]
    exact e
  obtain ⟨x1, y1, c1, e1, r⟩ := src
  exact ⟨⟨x1, y1, c1, k2 _ _ e1, r⟩, fun b o nb e => k2 _ _ (kb b o nb e)⟩
def spMade (K : PySem.W.Frag) (A : Ads) (n : Nat) : Sp := fun vs H Q _ => ∃ (a p : Addr) (t : Tr), vs = [.ref a, .ref p] ∧ Src H a ∧ TrAt K H p t ∧ lvT t ≤ n ∧ lvT t ≤ 5 ∧ amT t ≤ 40 ∧ okT t = true ∧
  ∀ (q : Addr) (H' : Hp), StT K A H' q t → Src H' a → KeepBut a H H' → Q (.ref q) H'
def spHolding (K : PySem.W.Frag) (A : Ads) (n : Nat) : Sp := fun vs H Q _ => ∃ (a p : Addr) (t : Tr) (d : Int), vs = [.ref a, .ref p, .int d] ∧ (d = 0 ∨ d = 1) ∧ Src H a ∧ TrAt K H p t ∧ 7 ≤ t.k ∧ lvT t ≤ n ∧ lvT t ≤ 5 ∧ amT t ≤ 40 ∧ okT t = true ∧
  ∀ (q : Addr) (H' : Hp), StT K A H' q t → Src H' a → KeepBut a H H' → Q (.ref q) H'
theorem made_step (T : Txt K mg A) (n : Nat) (ih : FnOk P w K mg base CX0 (2 * n + 11) A.a_law_holding A.d_law_holding ["_law_source_here", "_law_tree", "_law_way"] (spHolding K A n)) :
    FnOk P w K mg base CX0 (2 * n + 12) A.a_law_made A.d_law_made ["_law_source_here", "_law_tree"] (spMade K A n) := by
  have nd := sc_law_made.nd
  refine T.f_law_made.ok sc_law_made (fun vs H Q E h => ?_) (fun cdv A' outer s H vs Q E hr h => ?_)
  · obtain ⟨a, p, t, rfl, _⟩ := h
    rfl
  · obtain ⟨a, p, t, rfl, src, trt, hln, h5, h40, hok, q⟩ := h
    refine ⟨_, (pss_cons (ps_par (i := 2) (j := 3) rfl nd rfl rfl (by decide) rfl rfl (pa_cons (pe_call (ok_law_take T) (hr.mono (by omega)) (by rfl) T.m_law_take T.k_law_take T.v_law_take .nil pass0 (pa_cons (pv 0) (pa_cons pe_int pa_nil))) (pa_cons (pe_ix ix_tup (pv 1) pe_int (fun _ _ => rfl)) pa_nil)) (by rfl))
      (pss_cons (ps_if (pt_cmpR op_eq (pv 3) pe_str (nomark _)) (pss_one (ps_ret (pe_ifExp (pt_cmpR op_eq (pv 2) pe_int (nomark _)) (pe_make T.mk_Look (ok_Look___init__ T) (hr.mono (by omega)) (by rfl) T.m_Look T.v_Look___init__ .nil pass0 (pa_cons (pe_ix ix_tup (pv 1) pe_int (fun _ _ => rfl)) (pa_cons (pe_ix ix_tup (pv 1) pe_int (fun _ _ => rfl)) pa_nil))) (pe_makeK0 T.mk_Look (ok_Look___init__ T) (hr.mono (by omega)) (by rfl) T.m_Look T.kb_Look pass0 (pk_cons (pe_ix ix_tup (pv 1) pe_int (fun _ _ => rfl)) (pk_cons (pe_ix ix_tup (pv 1) pe_int (fun _ _ => rfl)) pk_nil)))))) pss_nil)
      (pss_cons (ps_if (pt_cmpR op_eq (pv 3) pe_str (nomark _)) (pss_one (ps_ret (pe_ifExp (pt_cmpR op_eq (pv 2) pe_int (nomark _)) (pe_make T.mk_Put (ok_Put___init__ T) (hr.mono (by omega)) (by rfl) T.m_Put T.v_Put___init__ .nil pass0 (pa_cons (pe_ix ix_tup (pv 1) pe_int (fun _ _ => rfl)) (pa_cons (pe_ix ix_tup (pv 1) pe_int (fun _ _ => rfl)) pa_nil))) (pe_makeK0 T.mk_Put (ok_Put___init__ T) (hr.mono (by omega)) (by rfl) T.m_Put T.kb_Put pass0 (pk_cons (pe_ix ix_tup (pv 1) pe_int (fun _ _ => rfl)) (pk_cons (pe_ix ix_tup (pv 1) pe_int (fun _ _ => rfl)) pk_nil)))))) pss_nil)
      (pss_cons (ps_if (pt_cmpR op_eq (pv 3) pe_str (nomark _)) (pss_one (ps_ret (pe_ifExp (pt_cmpR op_eq (pv 2) pe_int (nomark _)) (pe_make T.mk_Swap (ok_Swap___init__ T) (hr.mono (by omega)) (by rfl) T.m_Swap T.v_Swap___init__ .nil pass0 (pa_cons (pe_ix ix_tup (pv 1) pe_int (fun _ _ => rfl)) (pa_cons (pe_ix ix_tup (pv 1) pe_int (fun _ _ => rfl)) (pa_cons (pe_ix ix_tup (pv 1) pe_int (fun _ _ => rfl)) pa_nil)))) (pe_makeK0 T.mk_Swap (ok_Swap___init__ T) (hr.mono (by omega)) (by rfl) T.m_Swap T.kb_Swap pass0 (pk_cons (pe_ix ix_tup (pv 1) pe_int (fun _ _ => rfl)) (pk_cons (pe_ix ix_tup (pv 1) pe_int (fun _ _ => rfl)) (pk_cons (pe_ix ix_tup (pv 1) pe_int (fun _ _ => rfl)) pk_nil))))))) pss_nil)
      (pss_cons (ps_if (PW.pt (pw_and (pt_cmpR op_eq (pv 3) pe_str (nomark _)) (pw_and1 (pt_cmpR op_eq (pv 2) pe_int (nomark _))))) (pss_one (ps_ret (pe_make T.mk_Try (ok_Try___init__ T) (hr.mono (by omega)) (by rfl) T.m_Try T.v_Try___init__ .nil pass0 (pa_cons (pe_ix ix_tup (pv 1) pe_int (fun _ _ => rfl)) (pa_cons (pe_ix ix_tup (pv 1) pe_int (fun _ _ => rfl)) (pa_cons (pe_ix ix_tup (pv 1) pe_int (fun _ _ => rfl)) (pa_cons (pe_ix ix_tup (pv 1) pe_int (fun _ _ => rfl)) pa_nil))))))) pss_nil)
      (pss_cons (ps_if (pt_cmpR op_eq (pv 3) pe_str (nomark _)) (pss_one (ps_ret (pe_makeK0 T.mk_Try (ok_Try___init__ T) (hr.mono (by omega)) (by rfl) T.m_Try T.kb_Try pass0 (pk_cons (pe_ix ix_tup (pv 1) pe_int (fun _ _ => rfl)) (pk_cons (pe_ix ix_tup (pv 1) pe_int (fun _ _ => rfl)) (pk_cons (pe_ix ix_tup (pv 1) pe_int (fun _ _ => rfl)) (pk_cons (pe_ix ix_tup (pv 1) pe_int (fun _ _ => rfl)) pk_nil))))))) pss_nil)
      (pss_cons (ps_if (pt_cmpR op_eq (pv 3) pe_str (nomark _)) (pss_one (ps_ret (pe_ifExp (pt_cmpR op_eq (pv 2) pe_int (nomark _)) (pe_make T.mk_Let (ok_Let___init__ T) (hr.mono (by omega)) (by rfl) T.m_Let T.v_Let___init__ .nil pass0 (pa_cons (pe_ix ix_tup (pv 1) pe_int (fun _ _ => rfl)) (pa_cons (pe_ix ix_tup (pv 1) pe_int (fun _ _ => rfl)) pa_nil))) (pe_makeK0 T.mk_Let (ok_Let___init__ T) (hr.mono (by omega)) (by rfl) T.m_Let T.kb_Let pass0 (pk_cons (pe_ix ix_tup (pv 1) pe_int (fun _ _ => rfl)) (pk_cons (pe_ix ix_tup (pv 1) pe_int (fun _ _ => rfl)) pk_nil)))))) pss_nil)
      (pss_cons (ps_if (pt_cmpR op_eq (pv 3) pe_str (nomark _)) (pss_one (ps_ret (pe_ifExp (pt_cmpR op_eq (pv 2) pe_int (nomark _)) (pe_make T.mk_Return (ok_Return___init__ T) (hr.mono (by omega)) (by rfl) T.m_Return T.v_Return___init__ .nil pass0 (pa_cons (pe_ix ix_tup (pv 1) pe_int (fun _ _ => rfl)) pa_nil)) (pe_makeK0 T.mk_Return (ok_Return___init__ T) (hr.mono (by omega)) (by rfl) T.m_Return T.kb_Return pass0 (pk_cons (pe_ix ix_tup (pv 1) pe_int (fun _ _ => rfl)) pk_nil))))) pss_nil)
      (pss_one (ps_ret (pe_ifExp (pt_cmpR op_eq (pv 3) pe_str (nomark _)) (pe_make0 T.mk_Leave (ok_Leave___init__ T) (hr.mono (by omega)) (by rfl) T.m_Leave T.v_Leave___init__ .nil pass0) (pe_call ih (hr.mono (by omega)) (by rfl) T.m_law_holding T.k_law_holding T.v_law_holding .nil pass0 (pa_cons (pv 0) (pa_cons (pv 1) (pa_cons (pv 2) pa_nil))))))))))))))), ?_⟩
    refine ⟨_, rfl, a, _, rfl, src, by decide, by decide, fun d H2 d0 d1 src2 kb2 => ?_⟩
    have trt2 := trt.mv (src.kp kb2)
    have d2 : d = 0 ∨ d = 1 := by omega
    cases trt2 with
    | @one _ k xs line h o =>
      have hq : SqT K H2 p (xs.map V.str) := SqT.of h
      cases o with
      | @look c i hc hi =>
        refine ⟨_, rfl, p, _, _, _, rfl, rfl, hq, atI_nat (j := 0) rfl, _, _, rfl, ?_⟩
        refine ⟨_, rfl, rfl, _, rfl, ?_⟩
        refine ⟨_, rfl, rfl, _, rfl, ?_⟩
        rcases d2 with rfl | rfl
        · refine ⟨_, rfl, p, _, _, _, rfl, rfl, hq, atI_nat (j := 1) rfl, _, rfl, p, _, _, _, rfl, rfl, hq, atI_nat (j := 2) rfl, fun x dx nx ndx nex => ⟨x, dx, c, i, rfl, upd_same, hc, hi, fun H' st kb => ⟨rfl, ?_⟩⟩⟩
          have nxa : x ≠ a := src2.fresh nx
          obtain ⟨f1, f2⟩ := made_fin src2 kb2 nx ndx nex kb nxa
          exact q x H' (one_st st) f1 f2
        · refine ⟨_, rfl, p, _, _, _, rfl, rfl, hq, atI_nat (j := 2) rfl, _, rfl, p, _, _, _, rfl, rfl, hq, atI_nat (j := 1) rfl, rfl, rfl, fun x dx nx ndx nex => ⟨x, dx, c, i, rfl, upd_same, hc, hi, fun H' st kb => ⟨rfl, ?_⟩⟩⟩
          have nxa : x ≠ a := src2.fresh nx
          obtain ⟨f1, f2⟩ := made_fin src2 kb2 nx ndx nex kb nxa
          exact q x H' (one_st st) f1 f2
      | @put c o hc ho =>
        refine ⟨_, rfl, p, _, _, _, rfl, rfl, hq, atI_nat (j := 0) rfl, _, _, rfl, ?_⟩
        refine ⟨_, rfl, rfl, _, rfl, ?_⟩
        refine ⟨_, rfl, rfl, _, rfl, ?_⟩
        refine ⟨_, rfl, rfl, _, rfl, ?_⟩
        rcases d2 with rfl | rfl
        · refine ⟨_, rfl, p, _, _, _, rfl, rfl, hq, atI_nat (j := 1) rfl, _, rfl, p, _, _, _, rfl, rfl, hq, atI_nat (j := 2) rfl, fun x dx nx ndx nex => ⟨x, dx, c, o, rfl, upd_same, hc, ho, fun H' st kb => ⟨rfl, ?_⟩⟩⟩
          have nxa : x ≠ a := src2.fresh nx
          obtain ⟨f1, f2⟩ := made_fin src2 kb2 nx ndx nex kb nxa
          exact q x H' (one_st st) f1 f2
        · refine ⟨_, rfl, p, _, _, _, rfl, rfl, hq, atI_nat (j := 2) rfl, _, rfl, p, _, _, _, rfl, rfl, hq, atI_nat (j := 1) rfl, rfl, rfl, fun x dx nx ndx nex => ⟨x, dx, c, o, rfl, upd_same, hc, ho, fun H' st kb => ⟨rfl, ?_⟩⟩⟩
          have nxa : x ≠ a := src2.fresh nx
          obtain ⟨f1, f2⟩ := made_fin src2 kb2 nx ndx nex kb nxa
          exact q x H' (one_st st) f1 f2
      | @swap c o i hc ho hi =>
        refine ⟨_, rfl, p, _, _, _, rfl, rfl, hq, atI_nat (j := 0) rfl, _, _, rfl, ?_⟩
        refine ⟨_, rfl, rfl, _, rfl, ?_⟩
        refine ⟨_, rfl, rfl, _, rfl, ?_⟩
        refine ⟨_, rfl, rfl, _, rfl, ?_⟩
        refine ⟨_, rfl, rfl, _, rfl, ?_⟩
        rcases d2 with rfl | rfl
        · refine ⟨_, rfl, p, _, _, _, rfl, rfl, hq, atI_nat (j := 1) rfl, _, rfl, p, _, _, _, rfl, rfl, hq, atI_nat (j := 2) rfl, _, rfl, p, _, _, _, rfl, rfl, hq, atI_nat (j := 3) rfl, fun x dx nx ndx nex => ⟨x, dx, c, o, i, rfl, upd_same, hc, ho, hi, fun H' st kb => ⟨rfl, ?_⟩⟩⟩
          have nxa : x ≠ a := src2.fresh nx
          obtain ⟨f1, f2⟩ := made_fin src2 kb2 nx ndx nex kb nxa
          exact q x H' (one_st st) f1 f2
        · refine ⟨_, rfl, p, _, _, _, rfl, rfl, hq, atI_nat (j := 3) rfl, _, rfl, p, _, _, _, rfl, rfl, hq, atI_nat (j := 1) rfl, _, rfl, p, _, _, _, rfl, rfl, hq, atI_nat (j := 2) rfl, rfl, rfl, fun x dx nx ndx nex => ⟨x, dx, c, o, i, rfl, upd_same, hc, ho, hi, fun H' st kb => ⟨rfl, ?_⟩⟩⟩
          have nxa : x ≠ a := src2.fresh nx
          obtain ⟨f1, f2⟩ := made_fin src2 kb2 nx ndx nex kb nxa
          exact q x H' (one_st st) f1 f2
      | @try_ c o n i hc ho hn hi =>
        refine ⟨_, rfl, p, _, _, _, rfl, rfl, hq, atI_nat (j := 0) rfl, _, _, rfl, ?_⟩
        refine ⟨_, rfl, rfl, _, rfl, ?_⟩
        refine ⟨_, rfl, rfl, _, rfl, ?_⟩
        refine ⟨_, rfl, rfl, _, rfl, ?_⟩
        refine ⟨_, rfl, rfl, _, rfl, ?_⟩
        refine ⟨_, rfl, rfl, _, rfl, ?_⟩
        rcases d2 with rfl | rfl
        · refine ⟨_, rfl, p, _, _, _, rfl, rfl, hq, atI_nat (j := 1) rfl, _, rfl, p, _, _, _, rfl, rfl, hq, atI_nat (j := 2) rfl, _, rfl, p, _, _, _, rfl, rfl, hq, atI_nat (j := 3) rfl, _, rfl, p, _, _, _, rfl, rfl, hq, atI_nat (j := 4) rfl, fun x dx nx ndx nex => ⟨x, dx, c, o, n, i, rfl, upd_same, hc, ho, hn, hi, fun H' st kb => ⟨rfl, ?_⟩⟩⟩
          have nxa : x ≠ a := src2.fresh nx
          obtain ⟨f1, f2⟩ := made_fin src2 kb2 nx ndx nex kb nxa
          exact q x H' (one_st st) f1 f2
        · refine ⟨_, rfl, rfl, _, rfl, ?_⟩
          refine ⟨_, rfl, p, _, _, _, rfl, rfl, hq, atI_nat (j := 4) rfl, _, rfl, p, _, _, _, rfl, rfl, hq, atI_nat (j := 3) rfl, _, rfl, p, _, _, _, rfl, rfl, hq, atI_nat (j := 2) rfl, _, rfl, p, _, _, _, rfl, rfl, hq, atI_nat (j := 1) rfl, rfl, rfl, fun x dx nx ndx nex => ⟨x, dx, c, o, n, i, rfl, upd_same, hc, ho, hn, hi, fun H' st kb => ⟨rfl, ?_⟩⟩⟩
          have nxa : x ≠ a := src2.fresh nx
          obtain ⟨f1, f2⟩ := made_fin src2 kb2 nx ndx nex kb nxa
          exact q x H' (one_st st) f1 f2
      | @let_ i o hi ho =>
        refine ⟨_, rfl, p, _, _, _, rfl, rfl, hq, atI_nat (j := 0) rfl, _, _, rfl, ?_⟩
        refine ⟨_, rfl, rfl, _, rfl, ?_⟩
        refine ⟨_, rfl, rfl, _, rfl, ?_⟩
        refine ⟨_, rfl, rfl, _, rfl, ?_⟩
        refine ⟨_, rfl, rfl, _, rfl, ?_⟩
        refine ⟨_, rfl, rfl, _, rfl, ?_⟩
        refine ⟨_, rfl, rfl, _, rfl, ?_⟩
        refine ⟨_, rfl, rfl, _, rfl, ?_⟩
        rcases d2 with rfl | rfl
        · refine ⟨_, rfl, p, _, _, _, rfl, rfl, hq, atI_nat (j := 1) rfl, _, rfl, p, _, _, _, rfl, rfl, hq, atI_nat (j := 2) rfl, fun x dx nx ndx nex => ⟨x, dx, i, o, rfl, upd_same, hi, ho, fun H' st kb => ⟨rfl, ?_⟩⟩⟩
          have nxa : x ≠ a := src2.fresh nx
          obtain ⟨f1, f2⟩ := made_fin src2 kb2 nx ndx nex kb nxa
          exact q x H' (one_st st) f1 f2
        · refine ⟨_, rfl, p, _, _, _, rfl, rfl, hq, atI_nat (j := 2) rfl, _, rfl, p, _, _, _, rfl, rfl, hq, atI_nat (j := 1) rfl, rfl, rfl, fun x dx nx ndx nex => ⟨x, dx, i, o, rfl, upd_same, hi, ho, fun H' st kb => ⟨rfl, ?_⟩⟩⟩
          have nxa : x ≠ a := src2.fresh nx
          obtain ⟨f1, f2⟩ := made_fin src2 kb2 nx ndx nex kb nxa
          exact q x H' (one_st st) f1 f2
      | leave =>
        refine ⟨_, rfl, p, _, _, _, rfl, rfl, hq, atI_nat (j := 0) rfl, _, _, rfl, ?_⟩
        refine ⟨_, rfl, rfl, _, rfl, ?_⟩
        refine ⟨_, rfl, rfl, _, rfl, ?_⟩
        refine ⟨_, rfl, rfl, _, rfl, ?_⟩
        refine ⟨_, rfl, rfl, _, rfl, ?_⟩
        refine ⟨_, rfl, rfl, _, rfl, ?_⟩
        refine ⟨_, rfl, rfl, _, rfl, ?_⟩
        refine ⟨_, rfl, rfl, _, rfl, ?_⟩
        refine ⟨_, rfl, rfl, _, rfl, ?_⟩
        refine fun x dx nx ndx nex => ⟨x, dx, rfl, upd_same, fun H' st kb => ⟨rfl, ?_⟩⟩
        have nxa : x ≠ a := src2.fresh nx
        obtain ⟨f1, f2⟩ := made_fin src2 kb2 nx ndx nex kb nxa
        exact q x H' (one_st st) f1 f2
      | @ret o ho =>
        refine ⟨_, rfl, p, _, _, _, rfl, rfl, hq, atI_nat (j := 0) rfl, _, _, rfl, ?_⟩
        refine ⟨_, rfl, rfl, _, rfl, ?_⟩
        refine ⟨_, rfl, rfl, _, rfl, ?_⟩
        refine ⟨_, rfl, rfl, _, rfl, ?_⟩
        refine ⟨_, rfl, rfl, _, rfl, ?_⟩
        refine ⟨_, rfl, rfl, _, rfl, ?_⟩
        refine ⟨_, rfl, rfl, _, rfl, ?_⟩
        refine ⟨_, rfl, rfl, _, rfl, ?_⟩
        refine ⟨_, rfl, rfl, _, rfl, ?_⟩
        rcases d2 with rfl | rfl
        · refine ⟨_, rfl, p, _, _, _, rfl, rfl, hq, atI_nat (j := 1) rfl, fun x dx nx ndx nex => ⟨x, dx, o, rfl, upd_same, ho, fun H' st kb => ⟨rfl, ?_⟩⟩⟩
          have nxa : x ≠ a := src2.fresh nx
          obtain ⟨f1, f2⟩ := made_fin src2 kb2 nx ndx nex kb nxa
          exact q x H' (one_st st) f1 f2
        · refine ⟨_, rfl, p, _, _, _, rfl, rfl, hq, atI_nat (j := 1) rfl, rfl, rfl, fun x dx nx ndx nex => ⟨x, dx, o, rfl, upd_same, ho, fun H' st kb => ⟨rfl, ?_⟩⟩⟩
          have nxa : x ≠ a := src2.fresh nx
          obtain ⟨f1, f2⟩ := made_fin src2 kb2 nx ndx nex kb nxa
          exact q x H' (one_st st) f1 f2
    | @cond _ pb pe l r b e ps qs h hl hr2 hb he tb te =>
      have hq : SqT K H2 p [.str "if", .str l, .str r, .ref pb, .ref pe] := SqT.of h
      refine ⟨_, rfl, p, _, _, _, rfl, rfl, hq, atI_nat (j := 0) rfl, _, _, rfl, ?_⟩
      refine ⟨_, rfl, rfl, _, rfl, ?_⟩
      refine ⟨_, rfl, rfl, _, rfl, ?_⟩
      refine ⟨_, rfl, rfl, _, rfl, ?_⟩
      refine ⟨_, rfl, rfl, _, rfl, ?_⟩
      refine ⟨_, rfl, rfl, _, rfl, ?_⟩
      refine ⟨_, rfl, rfl, _, rfl, ?_⟩
      refine ⟨_, rfl, rfl, _, rfl, ?_⟩
      refine ⟨_, rfl, rfl, _, rfl, ?_⟩
      exact ⟨_, rfl, _, rfl, _, rfl, a, p, _, d, rfl, d2, src2, .cond h hl hr2 hb he tb te, by show 7 ≤ 7; decide, hln, h5, h40, hok, fun x H' st s3 kb3 => q x H' st s3 (kb2.trans kb3)⟩
    | @loop _ pb b ps h hb tb =>
      have hq : SqT K H2 p [.str "loop", .ref pb] := SqT.of h
      refine ⟨_, rfl, p, _, _, _, rfl, rfl, hq, atI_nat (j := 0) rfl, _, _, rfl, ?_⟩
      refine ⟨_, rfl, rfl, _, rfl, ?_⟩
      refine ⟨_, rfl, rfl, _, rfl, ?_⟩
      refine ⟨_, rfl, rfl, _, rfl, ?_⟩
      refine ⟨_, rfl, rfl, _, rfl, ?_⟩
      refine ⟨_, rfl, rfl, _, rfl, ?_⟩
      refine ⟨_, rfl, rfl, _, rfl, ?_⟩
      refine ⟨_, rfl, rfl, _, rfl, ?_⟩
      refine ⟨_, rfl, rfl, _, rfl, ?_⟩
      exact ⟨_, rfl, _, rfl, _, rfl, a, p, _, d, rfl, d2, src2, .loop h hb tb, by show 7 ≤ 8; decide, hln, h5, h40, hok, fun x H' st s3 kb3 => q x H' st s3 (kb2.trans kb3)⟩
    | @joined _ pb b ps h hb tb =>
      have hq : SqT K H2 p [.str "joined", .ref pb] := SqT.of h
      refine ⟨_, rfl, p, _, _, _, rfl, rfl, hq, atI_nat (j := 0) rfl, _, _, rfl, ?_⟩
      refine ⟨_, rfl, rfl, _, rfl, ?_⟩
      refine ⟨_, rfl, rfl, _, rfl, ?_⟩
      refine ⟨_, rfl, rfl, _, rfl, ?_⟩
      refine ⟨_, rfl, rfl, _, rfl, ?_⟩
      refine ⟨_, rfl, rfl, _, rfl, ?_⟩
      refine ⟨_, rfl, rfl, _, rfl, ?_⟩
      refine ⟨_, rfl, rfl, _, rfl, ?_⟩
      refine ⟨_, rfl, rfl, _, rfl, ?_⟩
      exact ⟨_, rfl, _, rfl, _, rfl, a, p, _, d, rfl, d2, src2, .joined h hb tb, by show 7 ≤ 9; decide, hln, h5, h40, hok, fun x H' st s3 kb3 => q x H' st s3 (kb2.trans kb3)⟩
theorem TrAt.kind {H : Hp} {p : Addr} {t : Tr} (h : TrAt K H p t) (k : 7 ≤ t.k) : (∃ l r b e pb pe, t = .cond l r b e ∧ SqT K H p [.str "if", .str l, .str r, .ref pb, .ref pe] ∧ OperT l ∧ OperT r) ∨ (∃ b pb, t = .loop b ∧ SqT K H p [.str "loop", .ref pb]) ∨ (∃ b pb, t = .joined b ∧ SqT K H p [.str "joined", .ref pb]) := by
  cases h with
  | one h o =>
    cases o <;> exact absurd (show 7 ≤ _ from k) (by show ¬ 7 ≤ (_ : Nat); simp [Tr.k])
  | cond h hl hr hb he tb te => exact .inl ⟨_, _, _, _, _, _, rfl, SqT.of h, hl, hr⟩
  | loop h hb tb => exact .inr (.inl ⟨_, _, rfl, SqT.of h⟩)
  | joined h hb tb => exact .inr (.inr ⟨_, _, rfl, SqT.of h⟩)
theorem holding_step (T : Txt K mg A) (n : Nat) (ih : FnOk P w K mg base CX0 (2 * n + 12) A.a_law_made A.d_law_made ["_law_source_here", "_law_tree"] (spMade K A n)) :
    FnOk P w K mg base CX0 (2 * (n + 1) + 11) A.a_law_holding A.d_law_holding ["_law_source_here", "_law_tree", "_law_way"] (spHolding K A (n + 1)) := by
  have nd := sc_law_holding.nd
  refine T.f_law_holding.ok sc_law_holding (fun vs H Q E h => ?_) (fun cdv A' outer s H vs Q E hr h => ?_)
  · obtain ⟨a, p, t, d, rfl, _⟩ := h
    rfl
  · obtain ⟨a, p, t, d, rfl, hd, src, trt, hk, hln, h5, h40, hok, q⟩ := h
    have lte := lvT_eq t
    have ate := amT_eq t
    obtain ⟨oki, oko⟩ := okT_in hok
    rw [okB_all] at oki oko
    refine ⟨_, (pss_cons (ps_asg (pe_lc (own := [("_law_side", 5)]) (g := gName 5) (tt := tYes) rfl nd (pi_list (pe_call (ok_law_bodies T) (hr.mono (by omega)) (by rfl) T.m_law_bodies T.k_law_bodies T.v_law_bodies .nil pass0 (pa_cons (pv 1) pa_nil))) (blkOk_by (N := nm_law_holding) (sc := defScope st_law_holding) (by decide +kernel)) (fun _ _ _ _ _ => (pg_name (i := 5) nd rfl (Or.inl rfl))) (fun _ _ _ _ _ => pts_nil) (fun _ _ _ _ _ => (pe_callTy (show CallR _ _ (rTupOf K) from call_tuple_of) (by rfl) T.b_tuple (by decide +kernel) (pa_cons (pe_lc (own := [("_law_part_here", 6)]) (g := gName 6) (tt := tYes) rfl nd (show PI _ _ _ (iTup K _) from pi_tup (pv 5)) (blkOk_by (N := nm_law_holding) (sc := scHold) (by decide +kernel)) (fun _ _ _ _ _ => (pg_name (i := 6) nd rfl (Or.inl rfl))) (fun _ _ _ _ _ => pts_nil) (fun _ _ _ _ _ => (pe_call ih (hr.mono (by omega)) (by rfl) T.m_law_made T.k_law_made T.v_law_made .nil pass0 (pa_cons (pv 0) (pa_cons (pv 6) pa_nil))))) pa_nil)))) (pg_unl rfl (pgs_cons (pg_name (i := 3) nd rfl (Or.inl rfl)) (pgs_cons (pg_name (i := 4) nd rfl (Or.inl rfl)) pgs_nil))))
      (pss_cons (ps_if (pt_cmpR op_eq (pe_ix ix_tup (pv 1) pe_int (fun _ _ => rfl)) pe_str (nomark _)) (pss_one (ps_ret (pe_ifExp (pt_cmpR op_eq (pv 2) pe_int (nomark _)) (pe_make T.mk_Loop (ok_Loop___init__ T) (hr.mono (by omega)) (by rfl) T.m_Loop T.v_Loop___init__ .nil pass0 (pa_cons (pv 3) pa_nil)) (pe_makeK0 T.mk_Loop (ok_Loop___init__ T) (hr.mono (by omega)) (by rfl) T.m_Loop T.kb_Loop pass0 (pk_cons (pv 3) pk_nil))))) pss_nil)
      (pss_cons (ps_if (pt_cmpR op_eq (pe_ix ix_tup (pv 1) pe_int (fun _ _ => rfl)) pe_str (nomark _)) (pss_one (ps_ret (pe_ifExp (pt_cmpR op_eq (pv 2) pe_int (nomark _)) (pe_make T.mk_Joined (ok_Joined___init__ T) (hr.mono (by omega)) (by rfl) T.m_Joined T.v_Joined___init__ .nil pass0 (pa_cons (pv 3) pa_nil)) (pe_makeK0 T.mk_Joined (ok_Joined___init__ T) (hr.mono (by omega)) (by rfl) T.m_Joined T.kb_Joined pass0 (pk_cons (pv 3) pk_nil))))) pss_nil)
      (pss_cons (ps_if (PW.pt (pw_and (pt_cmpR (op_eqE hr.units0) (pv 4) (pe_tup pa_nil) (nomark _)) (pw_and1 (pt_cmpR op_eq (pv 2) pe_int (nomark _))))) (pss_one (ps_ret (pe_make (dvs := [.ref A.x_If___init___0]) T.mk_If (ok_If___init__ T) (hr.mono (by omega)) (by rfl) T.m_If T.vd_If___init___3 (.cons rfl .nil) pass0 (pa_cons (pe_ix ix_tup (pv 1) pe_int (fun _ _ => rfl)) (pa_cons (pe_ix ix_tup (pv 1) pe_int (fun _ _ => rfl)) (pa_cons (pv 3) pa_nil)))))) pss_nil)
      (pss_cons (ps_if (pt_cmpR op_eq (pv 2) pe_int (nomark _)) (pss_one (ps_ret (pe_make (dvs := []) T.mk_If (ok_If___init__ T) (hr.mono (by omega)) (by rfl) T.m_If T.vd_If___init___4 .nil pass0 (pa_cons (pe_ix ix_tup (pv 1) pe_int (fun _ _ => rfl)) (pa_cons (pe_ix ix_tup (pv 1) pe_int (fun _ _ => rfl)) (pa_cons (pv 3) (pa_cons (pv 4) pa_nil))))))) pss_nil)
      (pss_one (ps_ret (pe_makeK0 T.mk_If (ok_If___init__ T) (hr.mono (by omega)) (by rfl) T.m_If T.kb_If pass0 (pk_cons (pv 4) (pk_cons (pv 3) (pk_cons (pe_ix ix_tup (pv 1) pe_int (fun _ _ => rfl)) (pk_cons (pe_ix ix_tup (pv 1) pe_int (fun _ _ => rfl)) pk_nil)))))))))))), ?_⟩
    refine ⟨_, rfl, p, t, rfl, trt, fun l pb pe H1 s1 nl hl bb be => ?_⟩
    have src1 := src.same s1
    refine ⟨l, rfl, ⟨_, SqL.of hl⟩, fun D hD => ?_⟩
    have nDa : D ≠ a := src1.fresh hD
    have nla : l ≠ a := src.fresh nl
    refine lc_it (walk_list (K := K) (a := l) (xs := [.ref pb, .ref pe])) (fun i H6 => KeepBut a H1 H6 ∧ Src H6 a ∧ ((i = 0 ∧ H6 D = some (.lst [])) ∨ (i = 1 ∧ ∃ (l1 : Addr) (bs : List Addr), H6 D = some (.lst [.ref l1]) ∧ SqT K H6 l1 (bs.map V.ref) ∧ StsT K A H6 bs t.inner) ∨
      (i = 2 ∧ ∃ (l1 l2 : Addr) (bs os : List Addr), H6 D = some (.lst [.ref l1, .ref l2]) ∧ SqT K H6 l1 (bs.map V.ref) ∧ StsT K A H6 bs t.inner ∧ SqT K H6 l2 (os.map V.ref) ∧ StsT K A H6 os t.outer))) ⟨KeepBut.of_same (same_new hD), src1.same (same_new hD), .inl ⟨rfl, upd_same⟩⟩ (fun i H6 _ h => SqL.of (h.1 _ _ nla hl)) ?_ ?_
    · rintro i x H5 H6 hi ⟨kb, s6, hc⟩ ⟨rfl, hx⟩
      refine ⟨rfl, ?_⟩
      have kp6 := src1.kp kb
      have hi2 : i = 0 ∨ i = 1 := by
        have : i < 2 := hi
        omega
      rcases hi2 with rfl | rfl
      · cases hx
        obtain ⟨pbs, sqb, trb⟩ := bb.mv kp6
        refine ⟨_, rfl, pb, rfl, ⟨_, sqb⟩, fun D2 hD2 => made_lc (A := A) (W := walk_tup (K := K) (a := pb) (xs := pbs.map V.ref)) (i6 := 6) (a := a) (pbs := pbs) (ts := t.inner) (fun i H x H' h => h) (by rw [List.length_map]) (fun H' k => (s6.kp k).sq sqb) trb s6 hD2 (fun r u H7 R mu tru s7 k => ?_) (fun _ => rfl) ?_ (fun H7 qs kb7 s7 hd7 st7 => ?_)⟩
        · have lu := lvB_mem mu
          have au := amB_mem mu
          exact ⟨_, rfl, _, rfl, a, r, u, rfl, s7, tru, by omega, by omega, by omega, List.all_eq_true.mp oki u mu, k⟩
        · have := amB_len t.inner
          omega
        · refine ⟨D2, _, rfl, .inl ⟨SqL.of hd7, fun m hm => ?_⟩⟩
          rcases hc with ⟨_, hd6⟩ | ⟨z, _⟩ | ⟨z, _⟩
          rotate_left
          · cases z
          · cases z
          have hD7 := kb7 _ _ nDa hd6
          have nmD : m ≠ D := (ne_of_none hD7 hm).symm
          have hD8 := same_new (o := .tup (qs.map V.ref)) hm _ _ hD7
          have k78 := (KpT.of_same (same_new (o := .tup (qs.map V.ref)) hm)).trans (KpT.lst hD8 (KeepBut.upd D _ (.lst ([] ++ [.ref m]))))
          refine ⟨_, hD8, by decide, ?_, (s7.same (same_new hm)).upd nDa, .inr (.inl ⟨rfl, m, qs, upd_same, SqT.of ((upd_ne nmD).trans upd_same), st7.mv k78⟩)⟩
          intro b o nb e
          rw [upd_ne (ne_of_none e hD)]
          exact same_new hm _ _ (kb7 _ _ nb (kb _ _ nb e))
      · cases hx
        obtain ⟨pbs, sqb, trb⟩ := be.mv kp6
        refine ⟨_, rfl, pe, rfl, ⟨_, sqb⟩, fun D2 hD2 => made_lc (A := A) (W := walk_tup (K := K) (a := pe) (xs := pbs.map V.ref)) (i6 := 6) (a := a) (pbs := pbs) (ts := t.outer) (fun i H x H' h => h) (by rw [List.length_map]) (fun H' k => (s6.kp k).sq sqb) trb s6 hD2 (fun r u H7 R mu tru s7 k => ?_) (fun _ => rfl) ?_ (fun H7 qs kb7 s7 hd7 st7 => ?_)⟩
        · have lu := lvB_mem mu
          have au := amB_mem mu
          exact ⟨_, rfl, _, rfl, a, r, u, rfl, s7, tru, by omega, by omega, by omega, List.all_eq_true.mp oko u mu, k⟩
        · have := amB_len t.outer
          omega
        · refine ⟨D2, _, rfl, .inl ⟨SqL.of hd7, fun m hm => ?_⟩⟩
          rcases hc with ⟨z, _⟩ | ⟨_, l1, bs, hd6, sq1, st1⟩ | ⟨z, _⟩
          · cases z
          rotate_left
          · cases z
          have hD7 := kb7 _ _ nDa hd6
          have nmD : m ≠ D := (ne_of_none hD7 hm).symm
          have hD8 := same_new (o := .tup (qs.map V.ref)) hm _ _ hD7
          have k78 := (KpT.of_same (same_new (o := .tup (qs.map V.ref)) hm)).trans (KpT.lst hD8 (KeepBut.upd D _ (.lst ([.ref l1] ++ [.ref m]))))
          refine ⟨_, hD8, (by show 1 < sizeLine; decide), ?_, (s7.same (same_new hm)).upd nDa, .inr (.inr ⟨rfl, l1, m, bs, qs, upd_same, k78.sq ((s6.kp kb7).sq sq1), (st1.mv (s6.kp kb7)).mv k78, SqT.of ((upd_ne nmD).trans upd_same), st7.mv k78⟩)⟩
          intro b o nb e
          rw [upd_ne (ne_of_none e hD)]
          exact same_new hm _ _ (kb7 _ _ nb (kb _ _ nb e))
    · rintro H6 ⟨kb, s6, hc⟩
      rcases hc with ⟨z, _⟩ | ⟨z, _⟩ | ⟨_, l1, l2, bs, os, hd6, sq1, st1, sq2, st2⟩
      · cases z
      · cases z
      have kp6 := (KpT.of_same s1).trans (src1.kp kb)
      have kbH : KeepBut a H H6 := (KeepBut.of_same s1).trans kb
      refine ⟨D, _, rfl, SqL.of hd6, rfl, _, _, rfl, _, _, rfl, rfl, ?_⟩
      have sn : ∀ {x dx : Addr} (C : Addr), H6 x = none → H6 dx = none → Same H6 (upd (upd H6 dx (.own x)) x (.ins C dx [])) := fun C nx ndx b o e => (upd_ne (ne_of_none e nx)).trans ((upd_ne (ne_of_none e ndx)).trans e)
      have trt6 := trt.mv kp6
      rcases trt6.kind hk with ⟨l', r', b, e, pb', pe', rfl, hq, ol, orr⟩ | ⟨b, pb', rfl, hq⟩ | ⟨b, pb', rfl, hq⟩
      · refine ⟨_, rfl, p, _, _, _, rfl, rfl, hq, atI_nat (j := 0) rfl, rfl, _, rfl, ?_⟩
        refine ⟨_, rfl, p, _, _, _, rfl, rfl, hq, atI_nat (j := 0) rfl, rfl, _, rfl, ?_⟩
        have a1 : amT (.cond l' r' b e) = 1 + (amB b + amB e) := by rw [amT]
        have a2 : lvT (.cond l' r' b e) = 1 + max (lvB b) (lvB e) := by rw [lvT]
        refine ⟨_, rfl, Nat.zero_le _, fun pz nz => ⟨l2, pz, _, rfl, rfl, (KpT.of_same (same_new nz)).sq sq2, SqT.of upd_same, ?_⟩⟩
        have sz := same_new (o := .tup []) nz
        have s7 := s6.same sz
        have hq7 := (KpT.of_same sz).sq hq
        have sq17 := (KpT.of_same sz).sq sq1
        have sq27 := (KpT.of_same sz).sq sq2
        have st17 := st1.mv (KpT.of_same sz)
        have st27 := st2.mv (KpT.of_same sz)
        have kb7 := kbH.trans (KeepBut.of_same (a := a) sz)
        have sn7 : ∀ {x dx : Addr} (C : Addr), (upd H6 pz (.tup [])) x = none → (upd H6 pz (.tup [])) dx = none → Same (upd H6 pz (.tup [])) (upd (upd (upd H6 pz (.tup [])) dx (.own x)) x (.ins C dx [])) := fun C nx ndx b o e => (upd_ne (ne_of_none e nx)).trans ((upd_ne (ne_of_none e ndx)).trans e)
        refine ⟨_, rfl, ?_⟩
        refine ite2 (fun he => ?_) (fun he => ?_)
        · have he : decide ((os.map V.ref).length = 0) = true := he
          have he := of_decide_eq_true he
          rw [List.length_map] at he
          have oe := List.length_eq_zero_iff.mp he
          have ee : e = [] := by
            have := st2.len
            rw [he] at this
            exact List.length_eq_zero_iff.mp this.symm
          refine ⟨_, rfl, rfl, _, rfl, ?_⟩
          rcases hd with rfl | rfl
          · subst ee
            refine ⟨_, rfl, p, _, _, _, rfl, rfl, hq7, atI_nat (j := 1) rfl, _, rfl, p, _, _, _, rfl, rfl, hq7, atI_nat (j := 2) rfl, _, rfl, fun x dx nx ndx nex => ⟨x, dx, l1, A.x_If___init___0, l', r', bs, [], b, [], rfl, upd_same, ol, orr, (KpT.of_same (sn7 A.c_If nx ndx)).sq sq17, st17.mv (KpT.of_same (sn7 A.c_If nx ndx)), T.e_If___init___0 _, .nil, ?_, ?_, fun H' st kb => ⟨rfl, ?_⟩⟩⟩
            · show amB _ + amB _ ≤ 39
              first | omega | (rw [amB_nil] at a1 ⊢; omega)
            · show max (lvB _) (lvB _) ≤ 4
              first | omega | (rw [lvB_nil] at a2 ⊢; omega)
            have nxa : x ≠ a := s7.fresh nx
            obtain ⟨f1, f2⟩ := made_fin s7 kb7 nx ndx nex kb nxa
            exact q x H' st f1 f2
          · refine ⟨_, rfl, rfl, _, rfl, ?_⟩
            refine ⟨_, rfl, _, rfl, _, rfl, p, _, _, _, rfl, rfl, hq7, atI_nat (j := 2) rfl, _, rfl, p, _, _, _, rfl, rfl, hq7, atI_nat (j := 1) rfl, rfl, rfl, fun x dx nx ndx nex => ⟨x, dx, l1, l2, l', r', bs, os, b, e, rfl, upd_same, ol, orr, (KpT.of_same (sn7 A.c_If nx ndx)).sq sq17, st17.mv (KpT.of_same (sn7 A.c_If nx ndx)), (KpT.of_same (sn7 A.c_If nx ndx)).sq sq27, st27.mv (KpT.of_same (sn7 A.c_If nx ndx)), ?_, ?_, fun H' st kb => ⟨rfl, ?_⟩⟩⟩
            · show amB _ + amB _ ≤ 39
              first | omega | (rw [amB_nil] at a1 ⊢; omega)
            · show max (lvB _) (lvB _) ≤ 4
              first | omega | (rw [lvB_nil] at a2 ⊢; omega)
            have nxa : x ≠ a := s7.fresh nx
            obtain ⟨f1, f2⟩ := made_fin s7 kb7 nx ndx nex kb nxa
            exact q x H' st f1 f2
        · refine ⟨_, rfl, rfl, _, rfl, ?_⟩
          rcases hd with rfl | rfl
          · refine ⟨_, rfl, p, _, _, _, rfl, rfl, hq7, atI_nat (j := 1) rfl, _, rfl, p, _, _, _, rfl, rfl, hq7, atI_nat (j := 2) rfl, _, rfl, _, rfl, fun x dx nx ndx nex => ⟨x, dx, l1, l2, l', r', bs, os, b, e, rfl, upd_same, ol, orr, (KpT.of_same (sn7 A.c_If nx ndx)).sq sq17, st17.mv (KpT.of_same (sn7 A.c_If nx ndx)), (KpT.of_same (sn7 A.c_If nx ndx)).sq sq27, st27.mv (KpT.of_same (sn7 A.c_If nx ndx)), ?_, ?_, fun H' st kb => ⟨rfl, ?_⟩⟩⟩
            · show amB _ + amB _ ≤ 39
              first | omega | (rw [amB_nil] at a1 ⊢; omega)
            · show max (lvB _) (lvB _) ≤ 4
              first | omega | (rw [lvB_nil] at a2 ⊢; omega)
            have nxa : x ≠ a := s7.fresh nx
            obtain ⟨f1, f2⟩ := made_fin s7 kb7 nx ndx nex kb nxa
            exact q x H' st f1 f2
          · refine ⟨_, rfl, _, rfl, _, rfl, p, _, _, _, rfl, rfl, hq7, atI_nat (j := 2) rfl, _, rfl, p, _, _, _, rfl, rfl, hq7, atI_nat (j := 1) rfl, rfl, rfl, fun x dx nx ndx nex => ⟨x, dx, l1, l2, l', r', bs, os, b, e, rfl, upd_same, ol, orr, (KpT.of_same (sn7 A.c_If nx ndx)).sq sq17, st17.mv (KpT.of_same (sn7 A.c_If nx ndx)), (KpT.of_same (sn7 A.c_If nx ndx)).sq sq27, st27.mv (KpT.of_same (sn7 A.c_If nx ndx)), ?_, ?_, fun H' st kb => ⟨rfl, ?_⟩⟩⟩
            · show amB _ + amB _ ≤ 39
              first | omega | (rw [amB_nil] at a1 ⊢; omega)
            · show max (lvB _) (lvB _) ≤ 4
              first | omega | (rw [lvB_nil] at a2 ⊢; omega)
            have nxa : x ≠ a := s7.fresh nx
            obtain ⟨f1, f2⟩ := made_fin s7 kb7 nx ndx nex kb nxa
            exact q x H' st f1 f2
      · refine ⟨_, rfl, p, _, _, _, rfl, rfl, hq, atI_nat (j := 0) rfl, rfl, _, rfl, ?_⟩
        refine ⟨_, rfl, rfl, _, rfl, ?_⟩
        have a1 : amT (.loop b) = 1 + (amB b + 0) := by rw [amT]
        have a2 : lvT (.loop b) = 1 + max (lvB b) 0 := by rw [lvT]
        rcases hd with rfl | rfl
        · refine ⟨_, rfl, fun x dx nx ndx nex => ⟨x, dx, l1, bs, b, rfl, upd_same, (KpT.of_same (sn A.c_Loop nx ndx)).sq sq1, st1.mv (KpT.of_same (sn A.c_Loop nx ndx)), fun _ _ => trivial, by omega, by omega, fun H' st kb => ⟨rfl, ?_⟩⟩⟩
          have nxa : x ≠ a := s6.fresh nx
          obtain ⟨f1, f2⟩ := made_fin s6 kbH nx ndx nex kb nxa
          exact q x H' st f1 f2
        · refine ⟨_, rfl, rfl, rfl, fun x dx nx ndx nex => ⟨x, dx, l1, bs, b, rfl, upd_same, (KpT.of_same (sn A.c_Loop nx ndx)).sq sq1, st1.mv (KpT.of_same (sn A.c_Loop nx ndx)), fun _ _ => trivial, by omega, by omega, fun H' st kb => ⟨rfl, ?_⟩⟩⟩
          have nxa : x ≠ a := s6.fresh nx
          obtain ⟨f1, f2⟩ := made_fin s6 kbH nx ndx nex kb nxa
          exact q x H' st f1 f2
      · refine ⟨_, rfl, p, _, _, _, rfl, rfl, hq, atI_nat (j := 0) rfl, rfl, _, rfl, ?_⟩
        refine ⟨_, rfl, p, _, _, _, rfl, rfl, hq, atI_nat (j := 0) rfl, rfl, _, rfl, ?_⟩
        refine ⟨_, rfl, rfl, _, rfl, ?_⟩
        have a1 : amT (.joined b) = 1 + (amB b + 0) := by rw [amT]
        have a2 : lvT (.joined b) = 1 + max (lvB b) 0 := by rw [lvT]
        have hg : goB b = true := by
          rw [okT, Bool.and_eq_true] at hok
          exact hok.1
        rw [goB_all] at hg
        rcases hd with rfl | rfl
        · refine ⟨_, rfl, fun x dx nx ndx nex => ⟨x, dx, l1, bs, b, rfl, upd_same, (KpT.of_same (sn A.c_Joined nx ndx)).sq sq1, st1.mv (KpT.of_same (sn A.c_Joined nx ndx)), fun u hu => List.all_eq_true.mp hg u hu, by omega, by omega, fun H' st kb => ⟨rfl, ?_⟩⟩⟩
          have nxa : x ≠ a := s6.fresh nx
          obtain ⟨f1, f2⟩ := made_fin s6 kbH nx ndx nex kb nxa
          exact q x H' st f1 f2
        · refine ⟨_, rfl, rfl, rfl, fun x dx nx ndx nex => ⟨x, dx, l1, bs, b, rfl, upd_same, (KpT.of_same (sn A.c_Joined nx ndx)).sq sq1, st1.mv (KpT.of_same (sn A.c_Joined nx ndx)), fun u hu => List.all_eq_true.mp hg u hu, by omega, by omega, fun H' st kb => ⟨rfl, ?_⟩⟩⟩
          have nxa : x ≠ a := s6.fresh nx
          obtain ⟨f1, f2⟩ := made_fin s6 kbH nx ndx nex kb nxa
          exact q x H' st f1 f2
theorem hold_vac : FnOk P w K mg base CX0 (2 * 0 + 11) A.a_law_holding A.d_law_holding ["_law_source_here", "_law_tree", "_law_way"] (spHolding K A 0) := FnOk.vac fun vs H Q E h => by
  obtain ⟨a, p, t, d, _, _, _, _, _, h, _⟩ := h
  have := lvT_pos t
  omega
theorem made_n (T : Txt K mg A) : ∀ n : Nat, FnOk P w K mg base CX0 (2 * n + 12) A.a_law_made A.d_law_made ["_law_source_here", "_law_tree"] (spMade K A n)
  | 0 => made_step T 0 hold_vac
  | n + 1 => made_step T (n + 1) (holding_step T n (made_n T n))
theorem ok_law_made (T : Txt K mg A) : FnOk P w K mg base CX0 22 A.a_law_made A.d_law_made ["_law_source_here", "_law_tree"] (spMade K A 5) := made_n T 5
end
end K07
set_option Elab.async false
set_option linter.all false
set_option maxRecDepth 100000
set_option maxHeartbeats 4000000
namespace K07
open PySem PySem.Spec PyProof.Rows L2 Mo
/-! ### paces -/
def pcK (k : Nat) : Bool := decide (k ≤ 3) || k == 9
mutual
def pcT : Tr → Nat
  | .one k _ _ => if pcK k = true then 1 else 0
  | .cond _ _ b e => pcB b + pcB e
  | .loop b => pcB b
  | .joined _ => 1
def pcB : List Tr → Nat
  | [] => 0
  | t :: ts => pcT t + pcB ts
end
theorem pcB_nil : pcB [] = 0 := by rw [pcB]
theorem pcB_cons (t : Tr) (ts : List Tr) : pcB (t :: ts) = pcT t + pcB ts := by rw [pcB]
theorem pcB_app : ∀ a b : List Tr, pcB (a ++ b) = pcB a + pcB b
  | [], b => by rw [pcB_nil, Nat.zero_add]; rfl
  | t :: a, b => by rw [List.cons_append, pcB_cons, pcB_cons, pcB_app a b, Nat.add_assoc]
theorem pcT_eq (t : Tr) : pcT t = if pcK t.k = true then 1 else pcB t.inner + pcB t.outer := by
  cases t with
  | one k xs l =>
    rw [pcT]
    show _ = if pcK k = true then 1 else pcB [] + pcB []
    rw [pcB_nil]
  | cond l r b e =>
    rw [pcT]
    exact (if_neg (by show ¬ pcK 7 = true; decide)).symm
  | loop b =>
    rw [pcT]
    refine Eq.symm ((if_neg (by show ¬ pcK 8 = true; decide)).trans ?_)
    show pcB b + pcB [] = pcB b
    rw [pcB_nil]
    rfl
  | joined b =>
    rw [pcT]
    exact (if_pos (by show pcK 9 = true; decide)).symm
theorem in_pc : ∀ k < 10, ∀ z, kwords[k]? = some z → inV (.str z) [.str "look", .str "put", .str "swap", .str "try", .str "joined"] = pcK k := by
  intro k hk z hz
  have h : (List.range 10).all (fun k => (kwords[k]?.map fun z => inV (.str z) [.str "look", .str "put", .str "swap", .str "try", .str "joined"] == pcK k).getD true) = true := by decide +kernel
  have := List.all_eq_true.mp h k (List.mem_range.mpr hk)
  rw [hz] at this
  exact beq_iff_eq.mp this
section
variable {w : World} {K : PySem.W.Frag} {mg : Str → Option Value} {base : Heap} {A : Ads}
theorem TrAt.hd {H : Hp} {p : Addr} {t : Tr} (h : TrAt K H p t) : ∃ z xs, SqT K H p (.str z :: xs) ∧ kwords[t.k]? = some z ∧ t.k < 10 := by
  cases h with
  | one h o => cases o <;> exact ⟨_, _, SqT.of h, rfl, by show _ < 10; simp [Tr.k]⟩
  | cond h hl hr hb he tb te => exact ⟨_, _, SqT.of h, rfl, by show 7 < 10; decide⟩
  | loop h hb tb => exact ⟨_, _, SqT.of h, rfl, by show 8 < 10; decide⟩
  | joined h hb tb => exact ⟨_, _, SqT.of h, rfl, by show 9 < 10; decide⟩
def spPaces (K : PySem.W.Frag) (n : Nat) : Sp := fun vs H Q _ => ∃ (a : Addr) (ps : List Addr) (ts : List Tr), vs = [.ref a] ∧ Sq K H a (ps.map V.ref) ∧ TrsAt K H ps ts ∧ lvB ts < n ∧ amB ts ≤ 1000 ∧ ∀ H', Same H H' → Q (.int (pcB ts : Nat)) H'
theorem paces_step (T : Txt K mg A) (n : Nat) (ih : FnOk P w K mg base CX0 (n + 2) A.a_law_paces A.d_law_paces ["_law_trees"] (spPaces K n)) :
    FnOk P w K mg base CX0 (n + 3) A.a_law_paces A.d_law_paces ["_law_trees"] (spPaces K (n + 1)) := by
  have nd := sc_law_paces.nd
  refine T.f_law_paces.ok sc_law_paces (fun vs H Q E h => ?_) (fun cdv A' outer s H vs Q E hr h => ?_)
  · obtain ⟨a, ps, ts, rfl, _⟩ := h
    rfl
  · obtain ⟨a, ps, ts, rfl, hs, tr, ln, am, q⟩ := h
    have ltr := tr.len
    refine ⟨_, (pss_cons (ps_set (i := 1) nd rfl (Or.inl rfl) pe_int)
      (pss_cons (ps_for PassesOwn.never rfl (pi_seq (pv 0)) (pg_name (i := 2) nd rfl (Or.inl rfl)) (pss_one (ps_if (pt_cmpR op_in_seq (pe_ix ix_tup (pv 2) pe_int (fun _ _ => rfl)) (pe_lst (pa_cons pe_str (pa_cons pe_str (pa_cons pe_str (pa_cons pe_str (pa_cons pe_str pa_nil)))))) (by rfl)) (pss_one (ps_set (i := 1) nd rfl (Or.inl rfl) (pe_op op_add (pv 1) pe_int))) (pss_one (ps_set (i := 1) nd rfl (Or.inl rfl) (pe_op op_add (pv 1) (pe_callB (cr_sum rfl) (by rfl) T.b_sum (by decide +kernel) (pa_cons (pe_lc (own := [("_law_side", 3)]) (g := gName 3) (tt := tYes) rfl nd (pi_list (pe_call (ok_law_bodies T) (hr.mono (by omega)) (by rfl) T.m_law_bodies T.k_law_bodies T.v_law_bodies .nil pass0 (pa_cons (pv 2) pa_nil))) (blkOk_by (N := nm_law_paces) (sc := defScope st_law_paces) (by decide +kernel)) (fun _ _ _ _ _ => (pg_name (i := 3) nd rfl (Or.inl rfl))) (fun _ _ _ _ _ => pts_nil) (fun _ _ _ _ _ => (pe_call ih (hr.mono (by omega)) (by rfl) T.m_law_paces T.k_law_paces T.v_law_paces .nil pass0 (pa_cons (pv 3) pa_nil)))) pa_nil))))))))
      (pss_one (ps_ret (pv 1))))), ?_⟩
    refine ⟨_, rfl, a, rfl, for_seq hs (fun i σ H2 => Same H H2 ∧ ∃ v2 v3 : Option V, σ = [some (.ref a), some (.int (pcB (ts.take i) : Nat)), v2, v3]) ⟨Same.refl _, none, none, ?_⟩ (fun i σ H2 h => h.1) ?_ ?_⟩
    · rw [List.take_zero, pcB_nil]
      rfl
    · rintro i y σ H2 hy ⟨s2, v2, v3, rfl⟩
      rw [List.getElem?_map] at hy
      obtain ⟨p, hp, rfl⟩ := Option.map_eq_some_iff.mp hy
      obtain ⟨t, ht, trp⟩ := tr.get hp
      have lt : lvT t ≤ lvB ts := lvB_mem (List.mem_of_getElem? ht)
      have at_ : amT t ≤ amB ts := amB_mem (List.mem_of_getElem? ht)
      have lte := lvT_eq t
      have ate := amT_eq t
      have tk : pcB (ts.take (i + 1)) = pcB (ts.take i) + pcT t := by
        rw [List.take_add_one, ht, pcB_app]
        show _ + pcB [t] = _
        rw [pcB_cons, pcB_nil, Nat.add_zero]
      have trp2 := trp.mv (KpT.of_same s2)
      obtain ⟨z, xs, hq, hz, k10⟩ := trp2.hd
      have iv := in_pc t.k k10 z hz
      have pe := pcT_eq t
      refine ⟨_, rfl, p, _, _, _, rfl, rfl, hq, atI_nat (j := 0) rfl, (by show 5 ≤ sizeLine; decide), fun q1 n1 => ⟨q1, _, rfl, Or.inl (SqL.of upd_same), rfl, rfl, _, rfl, ?_⟩⟩
      have s3 := s2.trans (same_new (o := .lst [.str "look", .str "put", .str "swap", .str "try", .str "joined"]) n1)
      refine ite2 (fun hin => ?_) (fun hin => ?_)
      · have hin : inV (.str z) [.str "look", .str "put", .str "swap", .str "try", .str "joined"] = true := hin
        rw [iv] at hin
        rw [if_pos hin] at pe
        refine ⟨_, rfl, _, _, rfl, rfl, s3, some (.ref p), v3, ?_⟩
        rw [tk, pe]
        rfl
      · have hin : ¬ inV (.str z) [.str "look", .str "put", .str "swap", .str "try", .str "joined"] = true := hin
        rw [iv] at hin
        rw [if_neg hin] at pe
        refine ⟨_, rfl, _, rfl, p, t, rfl, trp.mv (KpT.of_same s3), fun l pb pe' H4 s4 nl hl bb be => ?_⟩
        obtain ⟨pbs, sqb, trb⟩ := bb
        obtain ⟨pes, sqe, tre⟩ := be
        refine ⟨l, rfl, ⟨_, SqL.of hl⟩, fun D2 hD2 => two_lc (u := pcB t.inner) (v := pcB t.outer) (i3 := 3) hl hD2 (fun H5 R s5 k => ⟨_, rfl, pb, pbs, t.inner, rfl, .inr ((KpT.of_same s5).sq sqb), trb.mv (KpT.of_same s5), by omega, by omega, k⟩)
          (fun H5 R s5 k => ⟨_, rfl, pe', pes, t.outer, rfl, .inr ((KpT.of_same s5).sq sqe), tre.mv (KpT.of_same s5), by omega, by omega, k⟩) (fun _ => rfl) fun H5 s5 hd5 => ?_⟩
        refine ⟨D2, _, rfl, SqL.of hd5, _, _, rfl, rfl, s3.trans (s4.trans s5), some (.ref p), v3, ?_⟩
        rw [tk, pe]
        have e : ((pcB (ts.take i) : Nat) : Int) + [((pcB t.inner : Nat) : Int), ((pcB t.outer : Nat) : Int)].sum = ((pcB (ts.take i) + (pcB t.inner + pcB t.outer) : Nat) : Int) := by
          simp only [List.sum_cons, List.sum_nil]
          omega
        rw [← e]
        rfl
    · rintro σ H2 ⟨s2, v2, v3, rfl⟩
      rw [List.take_of_length_le (by rw [List.length_map, tr.len]; exact Nat.le_refl _)]
      exact ⟨_, rfl, q H2 s2⟩
theorem ok_law_paces (T : Txt K mg A) : ∀ n : Nat, FnOk P w K mg base CX0 (n + 2) A.a_law_paces A.d_law_paces ["_law_trees"] (spPaces K n)
  | 0 => FnOk.vac fun vs H Q E h => by
    obtain ⟨a, ps, ts, _, _, _, h, _⟩ := h
    omega
  | n + 1 => paces_step T n (ok_law_paces T n)
/-! ### operands and lines -/
def spOperand : Sp := fun vs H Q _ => ∃ (a b : Addr) (zs : List Str), vs = [.ref a, .ref b] ∧ Src H a ∧ H b = some (.lst (zs.map V.str)) ∧ zs.length ≤ 10 ∧ (∀ z ∈ zs, NameT z) ∧ ∀ (z : Str) (H' : Hp), OperT z → Src H' a → KeepBut a H H' → Q (.str z) H'
theorem oper_fixed : ∀ z ∈ (["nothing", "yes"] : List Str), OperT z := by
  intro z hz
  rcases List.mem_cons.mp hz with rfl | hz
  · exact ⟨by decide +kernel, aln_by (by decide +kernel), by decide⟩
  · rw [List.mem_singleton.mp hz]
    exact ⟨by decide +kernel, aln_by (by decide +kernel), by decide⟩
theorem ok_law_operand (T : Txt K mg A) : FnOk P w K mg base CX0 2 A.a_law_operand A.d_law_operand ["_law_source_here", "_law_names"] spOperand := by
  have nd := sc_law_operand.nd
  refine T.f_law_operand.ok sc_law_operand (fun vs H Q E h => ?_) (fun cdv A' outer s H vs Q E hr h => ?_)
  · obtain ⟨a, b, zs, rfl, _⟩ := h
    rfl
  · obtain ⟨a, b, zs, rfl, src, hb, lz, nz, q⟩ := h
    refine ⟨_, (pss_cons (ps_set (i := 2) nd rfl (Or.inl rfl) (pe_op op_cat (pv 1) (pe_lst (pa_cons pe_str (pa_cons pe_str pa_nil)))))
      (pss_one (ps_ret (pe_ix ix_list (pv 2) (pe_call (ok_law_take T) (hr.mono (by decide)) (by rfl) T.m_law_take T.k_law_take T.v_law_take .nil pass0 (pa_cons (pv 0) (pa_cons (pe_callB call_len_seq (by rfl) T.b_len (by decide +kernel) (pa_cons (pv 2) pa_nil)) pa_nil))) (fun _ _ => rfl))))), ?_⟩
    refine ⟨_, rfl, (by show 2 ≤ sizeLine; decide), fun p1 n1 => ?_⟩
    have s1 := same_new (o := .lst [.str "nothing", .str "yes"]) n1
    refine ⟨b, p1, _, _, rfl, rfl, s1 _ _ hb, upd_same, ?_, fun p2 n2 => ?_⟩
    · rw [List.length_map]
      exact len5000 (by show zs.length + 2 ≤ 5000; omega)
    have s2 := s1.trans (same_new (o := .lst (zs.map V.str ++ [.str "nothing", .str "yes"])) n2)
    have src2 := src.same s2
    have n2a : p2 ≠ a := (src.same s1).fresh n2
    have len2 : (zs.map V.str ++ [V.str "nothing", V.str "yes"]).length = zs.length + 2 := by simp
    refine ⟨_, rfl, _, rfl, _, rfl, p2, _, rfl, Or.inl (SqL.of upd_same), a, _, rfl, src2, ?_, ?_, fun d H3 d0 d1 src3 kb3 => ?_⟩
    · rw [len2]
      omega
    · rw [len2]
      omega
    obtain ⟨y, hy, ym⟩ := at_in (l := zs.map V.str ++ [V.str "nothing", V.str "yes"]) d0 d1
    obtain ⟨z, rfl, oz⟩ : ∃ z, y = .str z ∧ OperT z := by
      rcases List.mem_append.mp ym with ym | ym
      · obtain ⟨z, hz, rfl⟩ := List.mem_map.mp ym
        exact ⟨z, rfl, (nz z hz).oper⟩
      · obtain ⟨z, hz, rfl⟩ := List.mem_map.mp (show y ∈ (["nothing", "yes"] : List Str).map V.str from ym)
        exact ⟨z, rfl, oper_fixed z hz⟩
    refine ⟨p2, _, d, _, rfl, rfl, SqL.of (kb3 _ _ n2a upd_same), hy, ?_⟩
    exact q z H3 oz src3 ((KeepBut.of_same s2).trans kb3)
/-- the names, the goals, the rooms -/
def WorldAt (H : Hp) (wl : Addr) : Prop := ∃ (nm gl rm : Addr) (zs gs rs : List Str), H wl = some (.lst [.ref nm, .ref gl, .ref rm]) ∧ H nm = some (.lst (zs.map V.str)) ∧ H gl = some (.lst (gs.map V.str)) ∧ H rm = some (.lst (rs.map V.str)) ∧ 1 ≤ zs.length ∧ zs.length ≤ 10 ∧ 1 ≤ gs.length ∧ gs.length ≤ 10 ∧ 1 ≤ rs.length ∧ rs.length ≤ 10 ∧ (∀ z ∈ zs, NameT z) ∧ (∀ z ∈ gs, NameT z) ∧ (∀ z ∈ rs, NameT z)
theorem ne_src {H : Hp} {a b : Addr} {zs : List Str} (src : Src H a) (h : H b = some (.lst (zs.map V.str))) (n : 1 ≤ zs.length) : b ≠ a := by
  obtain ⟨x, y, c, e, _⟩ := src
  refine ne_of h e ?_
  cases zs with
  | nil => exact absurd n (by decide)
  | cons z l =>
    intro q
    injection q with q
    injection q with q
    cases q
theorem WorldAt.mv {H H' : Hp} {a wl : Addr} (h : WorldAt H wl) (src : Src H a) (k : KeepBut a H H') : WorldAt H' wl := by
  obtain ⟨nm, gl, rm, zs, gs, rs, h1, h2, h3, h4, l1, l2, l3, l4, l5, l6, r⟩ := h
  have nw : wl ≠ a := by
    obtain ⟨x, y, c, e, _⟩ := src
    exact ne_of h1 e (by intro z; injection z with z; injection z with z; cases z)
  exact ⟨nm, gl, rm, zs, gs, rs, k _ _ nw h1, k _ _ (ne_src src h2 l1) h2, k _ _ (ne_src src h3 l3) h3, k _ _ (ne_src src h4 l5) h4, l1, l2, l3, l4, l5, l6, r⟩
end
end K07
set_option Elab.async false
set_option linter.all false
set_option maxRecDepth 100000
set_option maxHeartbeats 4000000
namespace K07
open PySem PySem.Spec PyProof.Rows L2 Mo
/-! ### all statements of a body, their steps, a leave outside -/
mutual
def allT : Tr → List Tr
  | .one k xs l => [.one k xs l]
  | .cond l r b e => .cond l r b e :: (allB b ++ allB e)
  | .loop b => .loop b :: (allB b ++ [])
  | .joined b => .joined b :: (allB b ++ [])
def allB : List Tr → List Tr
  | [] => []
  | t :: ts => allT t ++ allB ts
end
theorem allB_nil : allB [] = [] := by rw [allB]
theorem allB_cons (t : Tr) (ts : List Tr) : allB (t :: ts) = allT t ++ allB ts := by rw [allB]
theorem allB_app : ∀ a b : List Tr, allB (a ++ b) = allB a ++ allB b
  | [], b => by rw [allB_nil]; rfl
  | t :: a, b => by rw [List.cons_append, allB_cons, allB_cons, allB_app a b, List.append_assoc]
theorem allT_eq (t : Tr) : allT t = t :: allB (t.inner ++ t.outer) := by
  rw [allB_app]
  cases t with
  | one k xs l => simp [allT, Tr.inner, Tr.outer, allB_nil]
  | cond l r b e => simp [allT, Tr.inner, Tr.outer]
  | loop b => simp [allT, Tr.inner, Tr.outer, allB_nil]
  | joined b => simp [allT, Tr.inner, Tr.outer, allB_nil]
mutual
theorem allT_len : ∀ t : Tr, (allT t).length = amT t
  | .one k xs l => by simp [allT, amT]
  | .cond l r b e => by
    have h1 := allB_len b
    have h2 := allB_len e
    simp only [allT, amT, List.length_cons, List.length_append]
    omega
  | .loop b => by
    have h1 := allB_len b
    simp only [allT, amT, List.length_cons, List.length_append, List.length_nil]
    omega
  | .joined b => by
    have h1 := allB_len b
    simp only [allT, amT, List.length_cons, List.length_append, List.length_nil]
    omega
theorem allB_len : ∀ ts : List Tr, (allB ts).length = amB ts
  | [] => by rw [allB_nil, amB_nil]; rfl
  | t :: ts => by
    have h1 := allT_len t
    have h2 := allB_len ts
    rw [allB_cons, amB_cons, List.length_append, h1, h2]
end
mutual
def loT : Tr → Bool
  | .one k _ _ => k == 5
  | .cond _ _ b e => loB b || loB e
  | .loop _ => false
  | .joined b => loB b
def loB : List Tr → Bool
  | [] => false
  | t :: ts => loT t || loB ts
end
theorem loB_nil : loB [] = false := by rw [loB]
theorem loB_cons (t : Tr) (ts : List Tr) : loB (t :: ts) = (loT t || loB ts) := by rw [loB]
theorem loB_app : ∀ a b : List Tr, loB (a ++ b) = (loB a || loB b)
  | [], b => by rw [loB_nil]; rfl
  | t :: a, b => by rw [List.cons_append, loB_cons, loB_cons, loB_app a b, Bool.or_assoc]
theorem loB_any : ∀ ts : List Tr, loB ts = ts.any loT
  | [] => by rw [loB_nil]; rfl
  | t :: ts => by rw [loB_cons, loB_any ts]; rfl
theorem loT_eq (t : Tr) (hk : t.k < 10) : loT t = ((t.k == 5) || ((t.k != 8) && loB (t.inner ++ t.outer))) := by
  rw [loB_app]
  cases t with
  | one k xs l => simp [loT, Tr.inner, Tr.outer, Tr.k, loB_nil]
  | cond l r b e => simp [loT, Tr.inner, Tr.outer, Tr.k]
  | loop b => simp [loT, Tr.inner, Tr.outer, Tr.k]
  | joined b => simp [loT, Tr.inner, Tr.outer, Tr.k, loB_nil]
theorem StT.fd {K : PySem.W.Frag} {A : Ads} {H : Hp} {q : Addr} {t : Tr} (h : StT K A H q t) : StF K H q (fdT t) := by
  cases h with
  | mk s f b o => exact f
section
variable {w : World} {K : PySem.W.Frag} {mg : Str → Option Value} {base : Heap} {A : Ads}
theorem StsT.am {H : Hp} {bs : List Addr} {ts : List Tr} (h : StsT K A H bs ts) : ts.length ≤ amB ts := amB_len ts
def spAll (K : PySem.W.Frag) (A : Ads) (n : Nat) : Sp := fun vs H Q _ => ∃ (pb : Addr) (bs : List Addr) (ts : List Tr), vs = [.ref pb] ∧ SqT K H pb (bs.map V.ref) ∧ StsT K A H bs ts ∧ lvB ts < n ∧ amB ts ≤ 1000 ∧
  ∀ (l : Addr) (qs : List Addr) (H' : Hp), Same H H' → H l = none → H' l = some (.lst (qs.map V.ref)) → StsT K A H' qs (allB ts) → Q (.ref l) H'
theorem all_step (T : Txt K mg A) (n : Nat) (ih : FnOk P w K mg base CX0 (n + 1) A.a_all_in A.d_all_in ["body"] (spAll K A n)) :
    FnOk P w K mg base CX0 (n + 2) A.a_all_in A.d_all_in ["body"] (spAll K A (n + 1)) := by
  have nd := sc_all_in.nd
  refine T.f_all_in.ok sc_all_in (fun vs H Q E h => ?_) (fun cdv A' outer s H vs Q E hr h => ?_)
  · obtain ⟨pb, bs, ts, rfl, _⟩ := h
    rfl
  · obtain ⟨pb, bs, ts, rfl, hb, st, ln, am, q⟩ := h
    have lts := amB_len ts
    have lbs := st.len
    refine ⟨_, (pss_cons (ps_set (i := 1) nd rfl (Or.inl rfl) (pe_lst pa_nil))
      (pss_cons (ps_for PassesOwn.never rfl (pi_tup (pv 0)) (pg_name (i := 2) nd rfl (Or.inl rfl)) (pss_cons (ps_expr (pe_bm PySem.F.plainAttrs_list PySem.F.slot_list_append PySem.F.type_list_append mt_append (pv 1) (pa_cons (pv 2) pa_nil)))
      (pss_one (ps_expr (pe_bm PySem.F.plainAttrs_list PySem.F.slot_list_extend PySem.F.type_list_extend mt_extend (pv 1) (pa_cons (pe_call ih (hr.mono (by omega)) (by rfl) T.m_all_in T.k_all_in T.v_all_in .nil pass0 (pa_cons (pe_op op_catX (pe_fld (pv 2) rfl) (pe_fld (pv 2) rfl)) pa_nil)) pa_nil))))))
      (pss_one (ps_ret (pv 1))))), ?_⟩
    refine ⟨Nat.zero_le _, fun f nf => ?_⟩
    have s0 := same_new (o := .lst []) nf
    refine ⟨_, rfl, pb, rfl, ⟨_, (KpT.of_same s0).sq hb⟩, for_it (walk_tup (K := K) (a := pb) (xs := bs.map V.ref)) (fun i σ H2 => Same H H2 ∧ ∃ (v2 : Option V) (qs : List Addr), σ = [some (.ref pb), some (.ref f), v2] ∧ H2 f = some (.lst (qs.map V.ref)) ∧ StsT K A H2 qs (allB (ts.take i)))
      ⟨s0, none, [], rfl, upd_same, by rw [List.take_zero, allB_nil]; exact .nil⟩ (fun i σ H2 _ h => (KpT.of_same h.1).sq hb) ?_ ?_⟩
    · rintro i x σ H1 H2 hi ⟨s2, v2, qs, rfl, hf, sq⟩ ⟨rfl, hx⟩
      rw [List.getElem?_map] at hx
      obtain ⟨p, hp, rfl⟩ := Option.map_eq_some_iff.mp hx
      obtain ⟨t, ht, stp⟩ := (st.mv (KpT.of_same s2)).get hp
      have lt : lvT t ≤ lvB ts := lvB_mem (List.mem_of_getElem? ht)
      have at_ : amT t ≤ amB ts := amB_mem (List.mem_of_getElem? ht)
      have lte := lvT_eq t
      have ate := amT_eq t
      have lvc := lvB_app t.inner t.outer
      have amc := amB_app t.inner t.outer
      have tk : allB (ts.take (i + 1)) = allB (ts.take i) ++ allT t := by
        rw [List.take_add_one, ht, allB_app]
        show _ ++ allB [t] = _
        rw [allB_cons, allB_nil, List.append_nil]
      have tot : (allB (ts.take i)).length + amT t ≤ 1000 := by
        have e : allB ts = allB (ts.take i) ++ allB (ts.drop i) := by rw [← allB_app, List.take_append_drop]
        have h1 := allB_len ts
        have h2 : amT t ≤ (allB (ts.drop i)).length := by
          rw [allB_len]
          refine amB_mem ?_
          have hlt := (List.getElem?_eq_some_iff.mp ht).1
          rw [List.mem_iff_getElem?]
          exact ⟨0, by rw [List.getElem?_drop]; exact ht⟩
        rw [e, List.length_append] at h1
        omega
      have lq := sq.len
      have bound : ∀ n, n ≤ 1000 → n ≤ sizeLine := fun n h => len5000 (by omega)
      obtain ⟨ib, io, sa, sb, so⟩ := stp.at
      obtain ⟨C, dx, fs, ps, pr, pb', po, h1, h2, h3, h4, h5, h6, h7, h8, h9, h10, h11, h12⟩ := sa
      have fc := T.fam C (List.mem_of_getElem? h1)
      refine ⟨_, rfl, .inl ⟨rfl, _, SqL.of hf⟩, _, rfl, f, _, _, rfl, rfl, hf, (by rw [List.length_map]; exact lt5000 (by omega)), ?_⟩
      have s3 : Same H (upd H2 f (.lst (qs.map V.ref ++ [V.ref p]))) := fun b o e => (upd_ne (ne_of_none e nf)).trans (s2 _ _ e)
      have k3 : KpT H2 (upd H2 f (.lst (qs.map V.ref ++ [V.ref p]))) := KpT.lst hf fun b o nb e => (upd_ne nb).trans e
      have npf : p ≠ f := ne_of h2 hf (by intro z; cases z)
      refine ⟨_, rfl, .inl ⟨rfl, _, SqL.of upd_same⟩, ?_⟩
      refine ⟨_, rfl, p, C, dx, fs, _, rfl, (upd_ne npf).trans h2, fc.cl, fc.na _ (by decide +kernel), h7, _, rfl, p, C, dx, fs, _, rfl, (upd_ne npf).trans h2, fc.cl, fc.na _ (by decide +kernel), h9, catX_ok (k3.sq h8) (k3.sq h10) ?_ fun pc H4 s4 hc => ?_⟩
      · have h1 := sb.len
        have h2 := so.len
        have h3 := amB_len t.inner
        have h4 := amB_len t.outer
        rw [List.length_map, List.length_map]
        exact bound _ (by omega)
      rw [← List.map_append] at hc
      have stc := ((sb.app so).mv k3).mv (KpT.of_same s4)
      refine ⟨pc, _, _, rfl, hc, stc, by omega, by omega, fun l5 q5 H5 s5 n5 hl5 st5 => ?_⟩
      have l5l := st5.len
      have e5 := allB_len (t.inner ++ t.outer)
      have hf5 := s5 _ _ (s4 _ _ (show (upd H2 f (.lst (qs.map V.ref ++ [V.ref p]))) f = _ from upd_same))
      refine ⟨f, l5, _, _, rfl, rfl, hf5, hl5, ?_, ?_⟩
      · rw [List.length_append, List.length_map, List.length_map]
        show qs.length + 1 + q5.length ≤ sizeLine
        exact bound _ (by omega)
      have s6 : Same H (upd H5 f (.lst (qs.map V.ref ++ [V.ref p] ++ q5.map V.ref))) := fun b o e => (upd_ne (ne_of_none e nf)).trans (s5 _ _ (s4 _ _ (s3 _ _ e)))
      have k6 : KpT H5 (upd H5 f (.lst (qs.map V.ref ++ [V.ref p] ++ q5.map V.ref))) := KpT.lst hf5 fun b o nb e => (upd_ne nb).trans e
      have k46 := ((KpT.of_same s4).trans (KpT.of_same s5)).trans k6
      refine ⟨s6, _, qs ++ ([p] ++ q5), rfl, ?_, ?_⟩
      · rw [upd_same]
        simp
      · rw [tk, allT_eq]
        exact (sq.mv (k3.trans k46)).app ((StsT.cons (stp.mv (k3.trans k46)) .nil).app (st5.mv k6))
    · rintro σ H2 ⟨s2, v2, qs, rfl, hf, sq⟩
      rw [List.length_map, lbs, List.take_length] at sq
      exact ⟨_, rfl, q f qs H2 s2 nf hf sq⟩
theorem ok_all_n (T : Txt K mg A) : ∀ n : Nat, FnOk P w K mg base CX0 (n + 1) A.a_all_in A.d_all_in ["body"] (spAll K A n)
  | 0 => FnOk.vac fun vs H Q E h => by
    obtain ⟨pb, bs, ts, _, _, _, h, _⟩ := h
    omega
  | n + 1 => all_step T n (ok_all_n T n)
theorem ok_all_in (T : Txt K mg A) : FnOk P w K mg base CX0 9 A.a_all_in A.d_all_in ["body"] (spAll K A 8) := ok_all_n T 8
/-! steps -/
def spSteps (K : PySem.W.Frag) (A : Ads) (n : Nat) : Sp := fun vs H Q _ => ∃ (pb : Addr) (bs : List Addr) (ts : List Tr), vs = [.ref pb] ∧ SqT K H pb (bs.map V.ref) ∧ StsT K A H bs ts ∧ lvB ts < n ∧ amB ts ≤ 1000 ∧ ∀ H' : Hp, Same H H' → Q (.int (pcB ts : Nat)) H'
theorem sum_pc : ∀ ts : List Tr, (ts.map fun t => ((pcT t : Nat) : Int)).sum = ((pcB ts : Nat) : Int)
  | [] => by rw [pcB_nil]; rfl
  | t :: ts => by
    rw [List.map_cons, List.sum_cons, sum_pc ts, pcB_cons]
    omega
theorem steps_step (T : Txt K mg A) (n : Nat) (ih : FnOk P w K mg base CX0 (n + 1) A.a_steps_in A.d_steps_in ["body"] (spSteps K A n)) :
    FnOk P w K mg base CX0 (n + 2) A.a_steps_in A.d_steps_in ["body"] (spSteps K A (n + 1)) := by
  have nd := sc_steps_in.nd
  refine T.f_steps_in.ok sc_steps_in (fun vs H Q E h => ?_) (fun cdv A' outer s H vs Q E hr h => ?_)
  · obtain ⟨pb, bs, ts, rfl, _⟩ := h
    rfl
  · obtain ⟨pb, bs, ts, rfl, hb, st, ln, am, q⟩ := h
    have lts := amB_len ts
    have lbs := st.len
    refine ⟨_, (pss_one (ps_ret (pe_callB (cr_sum rfl) (by rfl) T.b_sum (by decide +kernel) (pa_cons (pe_lc (own := [("part", 1)]) (g := gName 1) (tt := tYes) rfl nd (pi_tup (pv 0)) (blkOk_by (N := nm_steps_in) (sc := defScope st_steps_in) (by decide +kernel)) (fun _ _ _ _ _ => (pg_name (i := 1) nd rfl (Or.inl rfl))) (fun _ _ _ _ _ => pts_nil) (fun _ _ _ _ _ => (pe_ifExp (pt_cmpR (show OpR _ _ (rIn K false) from op_in_seq) (show PE _ _ (tCon K _ _) from pe_con (pv 1) rfl) (pe_gR T.c_STEPS) (by rfl)) pe_int (pe_call ih (hr.mono (by omega)) (by rfl) T.m_steps_in T.k_steps_in T.v_steps_in .nil pass0 (pa_cons (pe_op (show OpR _ _ (rCatX K) from op_catX) (show PE _ _ (tFld K _ _) from pe_fld (pv 1) rfl) (show PE _ _ (tFld K _ _) from pe_fld (pv 1) rfl)) pa_nil))))) pa_nil)))), ?_⟩
    refine ⟨_, rfl, pb, rfl, ⟨_, hb⟩, fun D hD => lc_it (walk_tup (K := K) (a := pb) (xs := bs.map V.ref)) (fun i H6 => Same H H6 ∧ H6 D = some (.lst (((ts.take i).map fun t => ((pcT t : Nat) : Int)).map V.int))) ⟨same_new hD, upd_same⟩ (fun i H6 _ h => (KpT.of_same h.1).sq hb) ?_ ?_⟩
    · rintro i x H6 H7 hi ⟨s6, hd⟩ ⟨rfl, hx⟩
      rw [List.getElem?_map] at hx
      obtain ⟨p, hp, rfl⟩ := Option.map_eq_some_iff.mp hx
      obtain ⟨t, ht, stp⟩ := (st.mv (KpT.of_same s6)).get hp
      have lt : lvT t ≤ lvB ts := lvB_mem (List.mem_of_getElem? ht)
      have at_ : amT t ≤ amB ts := amB_mem (List.mem_of_getElem? ht)
      have lte := lvT_eq t
      have ate := amT_eq t
      have lvc := lvB_app t.inner t.outer
      have amc := amB_app t.inner t.outer
      have pe := pcT_eq t
      have hil : i < ts.length := (List.getElem?_eq_some_iff.mp ht).1
      obtain ⟨ib, io, sa, sb, so⟩ := stp.at
      obtain ⟨C, dx, fs, ps, pr, pb', po, h1, h2, h3, h4, h5, h6, h7, h8, h9, h10, h11, h12⟩ := sa
      have fc := T.fam C (List.mem_of_getElem? h1)
      obtain ⟨u, z, hz, con⟩ := con_k T h1
      have iv := in_pc t.k (k_lt h1) z hz
      have tail : ∀ (v : Nat) (H8 : Hp), v = pcT t → Same H7 H8 → ∃ acc, H8 D = some (.lst acc) ∧ acc.length < sizeLine ∧ Same H (upd H8 D (.lst (acc ++ [V.int (v : Nat)]))) ∧ (upd H8 D (.lst (acc ++ [V.int (v : Nat)]))) D = some (.lst (((ts.take (i + 1)).map fun t => ((pcT t : Nat) : Int)).map V.int)) := by
        rintro v H8 rfl s8
        refine ⟨_, s8 _ _ hd, ?_, ?_, ?_⟩
        · rw [List.length_map, List.length_map, List.length_take]
          exact lt5000 (by omega)
        · intro b o e
          rw [upd_ne (ne_of_none e hD)]
          exact s8 _ _ (s6 _ _ e)
        · rw [upd_same, List.take_add_one, ht, List.map_append, List.map_append]
          rfl
      refine ⟨rfl, _, rfl, p, C, dx, fs, _, u, rfl, h2, fc.cl, con, h11, A.u_STEPS, _, rfl, Or.inr (T.s_STEPS H7), rfl, rfl, _, rfl, ?_⟩
      refine ite2 (fun hin => ?_) (fun hin => ?_)
      · have hin : inV (.str z) [.str "look", .str "put", .str "swap", .str "try", .str "joined"] = true := hin
        rw [iv] at hin
        rw [if_pos hin] at pe
        exact tail 1 H7 pe.symm (Same.refl _)
      · have hin : ¬ inV (.str z) [.str "look", .str "put", .str "swap", .str "try", .str "joined"] = true := hin
        rw [iv] at hin
        rw [if_neg hin, ← pcB_app] at pe
        refine ⟨_, rfl, p, C, dx, fs, _, rfl, h2, fc.cl, fc.na _ (by decide +kernel), h7, _, rfl, p, C, dx, fs, _, rfl, h2, fc.cl, fc.na _ (by decide +kernel), h9, catX_ok h8 h10 ?_ fun pc H8 s8 hc => ?_⟩
        · have h1 := sb.len
          have h2 := so.len
          have h3 := amB_len t.inner
          have h4 := amB_len t.outer
          rw [List.length_map, List.length_map]
          exact len5000 (by omega)
        rw [← List.map_append] at hc
        exact ⟨pc, _, _, rfl, hc, (sb.app so).mv (KpT.of_same s8), by omega, by omega, fun H9 s9 => tail _ H9 pe.symm (s8.trans s9)⟩
    · rintro H6 ⟨s6, hd⟩
      rw [List.length_map, lbs, List.take_length] at hd
      refine ⟨D, _, rfl, SqL.of hd, ?_⟩
      rw [sum_pc]
      exact q H6 s6
theorem ok_steps_n (T : Txt K mg A) : ∀ n : Nat, FnOk P w K mg base CX0 (n + 1) A.a_steps_in A.d_steps_in ["body"] (spSteps K A n)
  | 0 => FnOk.vac fun vs H Q E h => by
    obtain ⟨pb, bs, ts, _, _, _, h, _⟩ := h
    omega
  | n + 1 => steps_step T n (ok_steps_n T n)
theorem ok_steps_in (T : Txt K mg A) : FnOk P w K mg base CX0 9 A.a_steps_in A.d_steps_in ["body"] (spSteps K A 8) := ok_steps_n T 8
/-! leave statements -/
def spLeaves (K : PySem.W.Frag) (A : Ads) (n : Nat) : Sp := fun vs H Q _ => ∃ (pb : Addr) (bs : List Addr) (ts : List Tr), vs = [.ref pb] ∧ SqT K H pb (bs.map V.ref) ∧ StsT K A H bs ts ∧ lvB ts < n ∧ amB ts ≤ 1000 ∧ ∀ H' : Hp, Same H H' → Q (.bl (loB ts)) H'
theorem kw_leave : ∀ k < 10, ∀ z, kwords[k]? = some z → decide (V.str z = V.str "leave") = (k == 5) := by
  intro k hk z hz
  have h : (List.range 10).all (fun k => (kwords[k]?.map fun z => decide (V.str z = V.str "leave") == (k == 5)).getD true) = true := by decide +kernel
  have := List.all_eq_true.mp h k (List.mem_range.mpr hk)
  rw [hz] at this
  exact beq_iff_eq.mp this
theorem kw_loop : ∀ k < 10, ∀ z, kwords[k]? = some z → (!decide (V.str z = V.str "loop")) = (k != 8) := by
  intro k hk z hz
  have h : (List.range 10).all (fun k => (kwords[k]?.map fun z => (!decide (V.str z = V.str "loop")) == (k != 8)).getD true) = true := by decide +kernel
  have := List.all_eq_true.mp h k (List.mem_range.mpr hk)
  rw [hz] at this
  exact beq_iff_eq.mp this
theorem leaves_step (T : Txt K mg A) (n : Nat) (ih : FnOk P w K mg base CX0 (n + 1) A.a_leaves_outside A.d_leaves_outside ["body"] (spLeaves K A n)) :
    FnOk P w K mg base CX0 (n + 2) A.a_leaves_outside A.d_leaves_outside ["body"] (spLeaves K A (n + 1)) := by
  have nd := sc_leaves_outside.nd
  refine T.f_leaves_outside.ok sc_leaves_outside (fun vs H Q E h => ?_) (fun cdv A' outer s H vs Q E hr h => ?_)
  · obtain ⟨pb, bs, ts, rfl, _⟩ := h
    rfl
  · obtain ⟨pb, bs, ts, rfl, hb, st, ln, am, q⟩ := h
    have lts := amB_len ts
    have lbs := st.len
    refine ⟨_, (pss_one (ps_ret (pe_callB (cr_any rfl) (by rfl) T.b_any (by decide +kernel) (pa_cons (pe_lc (own := [("part", 1)]) (g := gName 1) (tt := tYes) rfl nd (pi_tup (pv 0)) (blkOk_by (N := nm_leaves_outside) (sc := defScope st_leaves_outside) (by decide +kernel)) (fun _ _ _ _ _ => (pg_name (i := 1) nd rfl (Or.inl rfl))) (fun _ _ _ _ _ => pts_nil) (fun _ _ _ _ _ => (pe_or (pe_cmpR op_eq (show PE _ _ (tCon K _ _) from pe_con (pv 1) rfl) pe_str (nomark _)) (pe_one (pe_and (pe_cmpR op_ne (show PE _ _ (tCon K _ _) from pe_con (pv 1) rfl) pe_str (nomark _)) (pe_one (pe_call ih (hr.mono (by omega)) (by rfl) T.m_leaves_outside T.k_leaves_outside T.v_leaves_outside .nil pass0 (pa_cons (pe_op (show OpR _ _ (rCatX K) from op_catX) (show PE _ _ (tFld K _ _) from pe_fld (pv 1) rfl) (show PE _ _ (tFld K _ _) from pe_fld (pv 1) rfl)) pa_nil)))))))) pa_nil)))), ?_⟩
    refine ⟨_, rfl, pb, rfl, ⟨_, hb⟩, fun D hD => lc_it (walk_tup (K := K) (a := pb) (xs := bs.map V.ref)) (fun i H6 => Same H H6 ∧ H6 D = some (.lst (((ts.take i).map loT).map V.bl))) ⟨same_new hD, upd_same⟩ (fun i H6 _ h => (KpT.of_same h.1).sq hb) ?_ ?_⟩
    · rintro i x H6 H7 hi ⟨s6, hd⟩ ⟨rfl, hx⟩
      rw [List.getElem?_map] at hx
      obtain ⟨p, hp, rfl⟩ := Option.map_eq_some_iff.mp hx
      obtain ⟨t, ht, stp⟩ := (st.mv (KpT.of_same s6)).get hp
      have lt : lvT t ≤ lvB ts := lvB_mem (List.mem_of_getElem? ht)
      have at_ : amT t ≤ amB ts := amB_mem (List.mem_of_getElem? ht)
      have lte := lvT_eq t
      have ate := amT_eq t
      have lvc := lvB_app t.inner t.outer
      have amc := amB_app t.inner t.outer
      have hil : i < ts.length := (List.getElem?_eq_some_iff.mp ht).1
      obtain ⟨ib, io, sa, sb, so⟩ := stp.at
      obtain ⟨C, dx, fs, ps, pr, pb', po, h1, h2, h3, h4, h5, h6, h7, h8, h9, h10, h11, h12⟩ := sa
      have fc := T.fam C (List.mem_of_getElem? h1)
      obtain ⟨u, z, hz, con⟩ := con_k T h1
      have k10 : t.k < 10 := k_lt h1
      have le := loT_eq t k10
      have w1 := kw_leave t.k k10 z hz
      have w2 := kw_loop t.k k10 z hz
      have tail : ∀ (v : Bool) (H8 : Hp), v = loT t → Same H7 H8 → ∃ acc, H8 D = some (.lst acc) ∧ acc.length < sizeLine ∧ Same H (upd H8 D (.lst (acc ++ [V.bl v]))) ∧ (upd H8 D (.lst (acc ++ [V.bl v]))) D = some (.lst (((ts.take (i + 1)).map loT).map V.bl)) := by
        rintro v H8 rfl s8
        refine ⟨_, s8 _ _ hd, ?_, ?_, ?_⟩
        · rw [List.length_map, List.length_map, List.length_take]
          exact lt5000 (by omega)
        · intro b o e
          rw [upd_ne (ne_of_none e hD)]
          exact s8 _ _ (s6 _ _ e)
        · rw [upd_same, List.take_add_one, ht, List.map_append, List.map_append]
          rfl
      refine ⟨rfl, _, rfl, p, C, dx, fs, _, u, rfl, h2, fc.cl, con, h11, rfl, _, rfl, ?_⟩
      refine ite2 (fun hin => ?_) (fun hin => ?_)
      · have hin : decide (V.str z = V.str "leave") = true := hin
        rw [w1] at hin
        rw [hin] at le
        exact tail true H7 le.symm (Same.refl _)
      · have hin : ¬ decide (V.str z = V.str "leave") = true := hin
        rw [w1] at hin
        rw [Bool.eq_false_iff.mpr hin, Bool.false_or] at le
        refine ⟨_, rfl, p, C, dx, fs, _, u, rfl, h2, fc.cl, con, h11, rfl, _, rfl, ?_⟩
        refine ite2 (fun hin2 => ?_) (fun hin2 => ?_)
        · have hin2 : (!decide (V.str z = V.str "loop")) = true := hin2
          rw [w2] at hin2
          rw [hin2, Bool.true_and] at le
          refine ⟨_, rfl, p, C, dx, fs, _, rfl, h2, fc.cl, fc.na _ (by decide +kernel), h7, _, rfl, p, C, dx, fs, _, rfl, h2, fc.cl, fc.na _ (by decide +kernel), h9, catX_ok h8 h10 ?_ fun pc H8 s8 hc => ?_⟩
          · have h1 := sb.len
            have h2 := so.len
            have h3 := amB_len t.inner
            have h4 := amB_len t.outer
            rw [List.length_map, List.length_map]
            exact len5000 (by omega)
          rw [← List.map_append] at hc
          exact ⟨pc, _, _, rfl, hc, (sb.app so).mv (KpT.of_same s8), by omega, by omega, fun H9 s9 => tail _ H9 le.symm (s8.trans s9)⟩
        · have hin2 : ¬ (!decide (V.str z = V.str "loop")) = true := hin2
          rw [w2] at hin2
          rw [Bool.eq_false_iff.mpr hin2, Bool.false_and] at le
          exact tail false H7 le.symm (Same.refl _)
    · rintro H6 ⟨s6, hd⟩
      rw [List.length_map, lbs, List.take_length] at hd
      refine ⟨D, _, rfl, SqL.of hd, ?_⟩
      rw [show (ts.map loT).any id = loB ts by rw [loB_any, List.any_map]; rfl]
      exact q H6 s6
theorem ok_leaves_n (T : Txt K mg A) : ∀ n : Nat, FnOk P w K mg base CX0 (n + 1) A.a_leaves_outside A.d_leaves_outside ["body"] (spLeaves K A n)
  | 0 => FnOk.vac fun vs H Q E h => by
    obtain ⟨pb, bs, ts, _, _, _, h, _⟩ := h
    omega
  | n + 1 => leaves_step T n (ok_leaves_n T n)
theorem ok_leaves_outside (T : Txt K mg A) : FnOk P w K mg base CX0 9 A.a_leaves_outside A.d_leaves_outside ["body"] (spLeaves K A 8) := ok_leaves_n T 8
end
end K07
set_option Elab.async false
set_option linter.all false
set_option maxRecDepth 100000
set_option maxHeartbeats 4000000
namespace K07
open PySem PySem.Spec PyProof.Rows L2 Mo
/-! ### rows of a code -/
mutual
inductive Rw where
  | mk (w : Str) (xs : List Rc)
inductive Rc where
  | n (i : Nat)
  | s (z : Str)
  | b (rs : List Rw)
end
def Rw.w : Rw → Str
  | .mk w _ => w
def Rw.xs : Rw → List Rc
  | .mk _ xs => xs
mutual
inductive RwAt (K : PySem.W.Frag) (H : Hp) : Addr → Rw → Prop where
  | mk {p : Addr} {w : Str} {vs : List V} {xs : List Rc} (h : SqT K H p (.str w :: vs)) (c : RcsAt K H vs xs) : RwAt K H p (.mk w xs)
inductive RcsAt (K : PySem.W.Frag) (H : Hp) : List V → List Rc → Prop where
  | nil : RcsAt K H [] []
  | n {i : Nat} {vs : List V} {xs : List Rc} (c : RcsAt K H vs xs) : RcsAt K H (.int (i : Nat) :: vs) (.n i :: xs)
  | s {z : Str} {vs : List V} {xs : List Rc} (c : RcsAt K H vs xs) : RcsAt K H (.str z :: vs) (.s z :: xs)
  | b {p : Addr} {ps : List Addr} {rs : List Rw} {vs : List V} {xs : List Rc} (h : SqT K H p (ps.map V.ref)) (r : RwsAt K H ps rs) (c : RcsAt K H vs xs) : RcsAt K H (.ref p :: vs) (.b rs :: xs)
inductive RwsAt (K : PySem.W.Frag) (H : Hp) : List Addr → List Rw → Prop where
  | nil : RwsAt K H [] []
  | cons {p : Addr} {r : Rw} {ps : List Addr} {rs : List Rw} (h : RwAt K H p r) (t : RwsAt K H ps rs) : RwsAt K H (p :: ps) (r :: rs)
end
mutual
theorem RwAt.mv {K : PySem.W.Frag} {H H' : Hp} (k : KpT H H') : ∀ {p : Addr} {r : Rw}, RwAt K H p r → RwAt K H' p r
  | _, _, .mk h c => .mk (k.sq h) (RcsAt.mv k c)
theorem RcsAt.mv {K : PySem.W.Frag} {H H' : Hp} (k : KpT H H') : ∀ {vs : List V} {xs : List Rc}, RcsAt K H vs xs → RcsAt K H' vs xs
  | _, _, .nil => .nil
  | _, _, .n c => .n (RcsAt.mv k c)
  | _, _, .s c => .s (RcsAt.mv k c)
  | _, _, .b h r c => .b (k.sq h) (RwsAt.mv k r) (RcsAt.mv k c)
theorem RwsAt.mv {K : PySem.W.Frag} {H H' : Hp} (k : KpT H H') : ∀ {ps : List Addr} {rs : List Rw}, RwsAt K H ps rs → RwsAt K H' ps rs
  | _, _, .nil => .nil
  | _, _, .cons h t => .cons (RwAt.mv k h) (RwsAt.mv k t)
end
section
variable {K : PySem.W.Frag} {H : Hp}
theorem RwsAt.len : ∀ {ps : List Addr} {rs : List Rw}, RwsAt K H ps rs → ps.length = rs.length
  | _, _, .nil => rfl
  | _, _, .cons _ r => congrArg Nat.succ (RwsAt.len r)
theorem RwsAt.get : ∀ {ps : List Addr} {rs : List Rw}, RwsAt K H ps rs → ∀ {i : Nat} {p : Addr}, ps[i]? = some p → ∃ r, rs[i]? = some r ∧ RwAt K H p r
  | _, _, .nil, i, p, h => by simp at h
  | _, _, .cons h r, 0, p, e => by
    cases e
    exact ⟨_, rfl, h⟩
  | _, _, .cons h r, i + 1, p, e => RwsAt.get r (i := i) e
theorem RwsAt.app : ∀ {ps qs : List Addr} {rs us : List Rw}, RwsAt K H ps rs → RwsAt K H qs us → RwsAt K H (ps ++ qs) (rs ++ us)
  | _, _, _, _, .nil, r => r
  | _, _, _, _, .cons h r, q => .cons h (RwsAt.app r q)
theorem RcsAt.len : ∀ {vs : List V} {xs : List Rc}, RcsAt K H vs xs → vs.length = xs.length
  | _, _, .nil => rfl
  | _, _, .n c => congrArg Nat.succ (RcsAt.len c)
  | _, _, .s c => congrArg Nat.succ (RcsAt.len c)
  | _, _, .b _ _ c => congrArg Nat.succ (RcsAt.len c)
theorem RcsAt.app : ∀ {vs ws : List V} {xs ys : List Rc}, RcsAt K H vs xs → RcsAt K H ws ys → RcsAt K H (vs ++ ws) (xs ++ ys)
  | _, _, _, _, .nil, q => q
  | _, _, _, _, .n c, q => .n (RcsAt.app c q)
  | _, _, _, _, .s c, q => .s (RcsAt.app c q)
  | _, _, _, _, .b h r c, q => .b h r (RcsAt.app c q)
/-- a last number -/
theorem RcsAt.last : ∀ {vs : List V} {ys : List Rc} {i : Nat}, RcsAt K H vs (ys ++ [.n i]) → ∃ us, vs = us ++ [.int (i : Nat)] ∧ RcsAt K H us ys
  | _, [], _, .n .nil => ⟨[], rfl, .nil⟩
  | _, .n j :: ys, i, .n c => let ⟨us, e, r⟩ := RcsAt.last (ys := ys) c; ⟨_ :: us, by rw [e]; rfl, .n r⟩
  | _, .s j :: ys, i, .s c => let ⟨us, e, r⟩ := RcsAt.last (ys := ys) c; ⟨_ :: us, by rw [e]; rfl, .s r⟩
  | _, .b j :: ys, i, .b h q c => let ⟨us, e, r⟩ := RcsAt.last (ys := ys) c; ⟨_ :: us, by rw [e]; rfl, .b h q r⟩
theorem RcsAt.one {vs : List V} {i : Nat} (c : RcsAt K H vs [.n i]) : vs = [.int (i : Nat)] := by
  cases c with
  | n c => cases c; rfl
end
/-! ### the operands' places -/
def ixS : List Str → Str → Nat
  | [], _ => 0
  | x :: xs, z => if x = z then 0 else ixS xs z + 1
theorem ixS_at : ∀ {xs : List Str} {z : Str}, z ∈ xs → xs[ixS xs z]? = some z ∧ ∀ m, m < ixS xs z → xs[m]? ≠ some z
  | [], _, h => (List.not_mem_nil h).elim
  | x :: xs, z, h => by
    unfold ixS
    by_cases e : x = z
    · rw [if_pos e]
      exact ⟨by rw [e]; rfl, fun m hm => absurd hm (Nat.not_lt_zero m)⟩
    · rw [if_neg e]
      obtain ⟨a, b⟩ := ixS_at ((List.mem_cons.mp h).resolve_left fun q => e q.symm)
      refine ⟨a, fun m hm => ?_⟩
      cases m with
      | zero =>
        intro q
        exact e (Option.some.inj q)
      | succ m => exact b m (by omega)
def plF (zs : List Str) (z : Str) : Nat := if z = "nothing" then zs.length else if z = "yes" then zs.length + 1 else ixS zs z
def Cv (zs : List Str) (z : Str) : Prop := z = "nothing" ∨ z = "yes" ∨ z ∈ zs
/-- the parts of the row of a statement of one line -/
def partsR (zs : List Str) : Nat → List Str → List Rc
  | 0, [_, c, i] => [.s c, .n (plF zs i)]
  | 1, [_, c, o] => [.s c, .n (plF zs o)]
  | 2, [_, c, o, i] => [.s c, .n (plF zs o), .n (plF zs i)]
  | 3, [_, c, o, n, i] => [.s c, .n (plF zs o), .n (plF zs n), .n (plF zs i)]
  | 4, [_, i, o] => [.n (plF zs o), .n (plF zs i)]
  | 6, [_, o] => [.n (plF zs o)]
  | _, _ => []
def goesW (w : Str) : Bool := inV (.str w) [.str "test", .str "jump"]
def okR (r : Rw) : Prop := goesW r.w = true → ∃ ys i, r.xs = ys ++ [.n i]
def lastN (xs : List Rc) : Nat := match xs.getLast? with
  | some (.n i) => i
  | _ => 0
def mvR (by_ : Nat) : Rw → Rw
  | .mk w xs => if goesW w = true then .mk w (xs.dropLast ++ [.n (lastN xs + by_)]) else .mk w xs
theorem mvR_go {by_ : Nat} {w : Str} {ys : List Rc} {i : Nat} (h : goesW w = true) : mvR by_ (.mk w (ys ++ [.n i])) = .mk w (ys ++ [.n (i + by_)]) := by
  show (if goesW w = true then _ else _) = _
  rw [if_pos h, List.dropLast_concat]
  simp [lastN]
theorem mvR_no {by_ : Nat} {w : Str} {xs : List Rc} (h : ¬ goesW w = true) : mvR by_ (.mk w xs) = .mk w xs := if_neg h
theorem mvR_w (by_ : Nat) (r : Rw) : (mvR by_ r).w = r.w := by
  cases r with
  | mk w xs =>
    by_cases h : goesW w = true
    · show Rw.w (if goesW w = true then _ else _) = w
      rw [if_pos h]; rfl
    · rw [mvR_no h]
theorem mvR_ok {by_ : Nat} {r : Rw} (h : okR r) : okR (mvR by_ r) := by
  cases r with
  | mk w xs =>
    by_cases g : goesW w = true
    · obtain ⟨ys, i, e⟩ := h g
      have e : xs = ys ++ [.n i] := e
      rw [e, mvR_go g]
      exact fun _ => ⟨ys, _, rfl⟩
    · rw [mvR_no g]
      exact h
/-! ### the rows of a statement, of a body -/
mutual
def rowsF (zs : List Str) : Tr → List Rw
  | .one k xs _ => [.mk (kwords.getD k "") (partsR zs k xs)]
  | .cond l r b e => [.mk "test" [.n (plF zs l), .n (plF zs r), .n ((codeA zs 0 b).length + 2)]] ++ (codeA zs 0 b).map (mvR 1) ++ [.mk "jump" [.n ((codeA zs 0 b).length + 2 + (codeA zs 0 e).length)]] ++ (codeA zs 0 e).map (mvR ((codeA zs 0 b).length + 2))
  | .loop b => (codeA zs 0 b).map (fun r => if r.w = ("leave" : Str) then .mk "jump" [.n ((codeA zs 0 b).length + 1)] else r) ++ [.mk "jump" [.n 0]]
  | .joined b => [.mk "joined" [.b (codeA zs 0 b)]]
def codeA (zs : List Str) (off : Nat) : List Tr → List Rw
  | [] => []
  | t :: ts => (rowsF zs t).map (mvR off) ++ codeA zs (off + (rowsF zs t).length) ts
end
abbrev codeB (zs : List Str) (ts : List Tr) : List Rw := codeA zs 0 ts
theorem codeA_nil (zs : List Str) (off : Nat) : codeA zs off [] = [] := by rw [codeA]
theorem codeA_cons (zs : List Str) (off : Nat) (t : Tr) (ts : List Tr) : codeA zs off (t :: ts) = (rowsF zs t).map (mvR off) ++ codeA zs (off + (rowsF zs t).length) ts := by rw [codeA]
theorem codeA_snoc (zs : List Str) (t : Tr) : ∀ (ts : List Tr) (off : Nat), codeA zs off (ts ++ [t]) = codeA zs off ts ++ (rowsF zs t).map (mvR (off + (codeA zs off ts).length))
  | [], off => by
    rw [List.nil_append, codeA_cons, codeA_nil, codeA_nil, List.append_nil]
    rfl
  | u :: ts, off => by
    rw [List.cons_append, codeA_cons, codeA_snoc zs t ts, codeA_cons, List.append_assoc, List.length_append, List.length_map, Nat.add_assoc]
mutual
theorem rowsF_len (zs : List Str) : ∀ t : Tr, (rowsF zs t).length ≤ 2 * amT t
  | .one k xs l => by simp [rowsF, amT]
  | .cond l r b e => by
    have h1 := codeA_len zs b 0
    have h2 := codeA_len zs e 0
    simp only [rowsF, amT, List.length_append, List.length_map, List.length_cons, List.length_nil]
    omega
  | .loop b => by
    have h1 := codeA_len zs b 0
    simp only [rowsF, amT, List.length_append, List.length_map, List.length_cons, List.length_nil]
    omega
  | .joined b => by
    simp only [rowsF, amT, List.length_cons, List.length_nil]
    omega
theorem codeA_len (zs : List Str) : ∀ (ts : List Tr) (off : Nat), (codeA zs off ts).length ≤ 2 * amB ts
  | [], off => by rw [codeA_nil]; exact Nat.zero_le _
  | t :: ts, off => by
    have h1 := rowsF_len zs t
    have h2 := codeA_len zs ts (off + (rowsF zs t).length)
    rw [codeA_cons, amB_cons, List.length_append, List.length_map]
    omega
end
theorem okR_jump (i : Nat) : okR (.mk "jump" [.n i]) := fun _ => ⟨[], i, rfl⟩
mutual
theorem rowsF_ok (zs : List Str) : ∀ t : Tr, ∀ r ∈ rowsF zs t, okR r
  | .one k xs l => by
    intro r hr
    simp only [rowsF, List.mem_singleton] at hr
    subst hr
    intro h
    have no : ∀ k < 10, goesW (kwords.getD k "") = false := by decide +kernel
    have h : goesW (kwords.getD k "") = true := h
    by_cases hk : k < 10
    · rw [no k hk] at h
      cases h
    · have e : kwords.getD k "" = "" := by
        rw [List.getD_eq_getElem?_getD, List.getElem?_eq_none (by show 10 ≤ k; omega)]
        rfl
      rw [e] at h
      exact absurd h (by decide +kernel)
  | .cond l r b e => by
    intro x hx
    simp only [rowsF, List.mem_append, List.mem_singleton, List.mem_map] at hx
    rcases hx with ((rfl | ⟨y, hy, rfl⟩) | rfl) | ⟨y, hy, rfl⟩
    · exact fun _ => ⟨[.n (plF zs l), .n (plF zs r)], _, rfl⟩
    · exact mvR_ok (codeA_ok zs b 0 y hy)
    · exact okR_jump _
    · exact mvR_ok (codeA_ok zs e 0 y hy)
  | .loop b => by
    intro x hx
    simp only [rowsF, List.mem_append, List.mem_singleton, List.mem_map] at hx
    rcases hx with ⟨y, hy, rfl⟩ | rfl
    · by_cases c : y.w = ("leave" : Str)
      · rw [if_pos c]
        exact okR_jump _
      · rw [if_neg c]
        exact codeA_ok zs b 0 y hy
    · exact okR_jump _
  | .joined b => by
    intro x hx
    simp only [rowsF, List.mem_singleton] at hx
    subst hx
    intro h
    exact absurd (show goesW "joined" = true from h) (by decide +kernel)
theorem codeA_ok (zs : List Str) : ∀ (ts : List Tr) (off : Nat), ∀ r ∈ codeA zs off ts, okR r
  | [], off => by
    rw [codeA_nil]
    exact fun r h => (List.not_mem_nil h).elim
  | t :: ts, off => by
    rw [codeA_cons]
    intro r hr
    rcases List.mem_append.mp hr with h | h
    · obtain ⟨y, hy, rfl⟩ := List.mem_map.mp h
      exact mvR_ok (rowsF_ok zs t y hy)
    · exact codeA_ok zs ts _ r h
end
end K07
set_option Elab.async false
set_option linter.all false
set_option maxRecDepth 100000
set_option maxHeartbeats 4000000
namespace K07
open PySem PySem.Spec PyProof.Rows L2 Mo
theorem cut_init (xs : List V) (v : V) : cutV (xs ++ [v]) none (some (-1)) = xs := by
  unfold cutV
  have e1 : HT.sIx (xs ++ [v]).length 0 none = 0 := rfl
  have e2 : HT.sIx (xs ++ [v]).length (xs ++ [v]).length (some (-1)) = xs.length := by
    show (if (-1 : Int) < 0 then ((-1 : Int) + ((xs ++ [v]).length : Int)).toNat else min (-1 : Int).toNat (xs ++ [v]).length) = _
    rw [if_pos (by decide), List.length_append]
    show ((-1 : Int) + ((xs.length + 1 : Nat) : Int)).toNat = _
    omega
  rw [e1, e2]
  rw [Nat.sub_zero, List.drop_zero, List.take_left']
  rfl
theorem TXkp {H H' : Hp} {p : Addr} {xs : List V} (h : TX H p xs) (k : KpT H H') : TX H' p xs := let ⟨ob, d, h⟩ := h; ⟨ob, d, k.f _ _ _ h⟩
section
variable {w : World} {K : PySem.W.Frag} {mg : Str → Option Value} {base : Heap} {A : Ads}
def spPlace (K : PySem.W.Frag) : Sp := fun vs H Q _ => ∃ (pn : Addr) (zs : List Str) (z : Str), vs = [.ref pn, .str z] ∧ TX H pn (zs.map V.str) ∧ zs.length ≤ 10 ∧ Cv zs z ∧ Q (.int (plF zs z : Nat)) H
theorem ok_place_of (T : Txt K mg A) : FnOk P w K mg base CX0 1 A.a_place_of A.d_place_of ["names", "operand"] (spPlace K) := by
  have nd := sc_place_of.nd
  refine T.f_place_of.ok sc_place_of (fun vs H Q E h => ?_) (fun cdv A' outer s H vs Q E hr h => ?_)
  · obtain ⟨pn, zs, z, rfl, _⟩ := h
    rfl
  · obtain ⟨pn, zs, z, rfl, hz, lz, cv, q⟩ := h
    refine ⟨_, (pss_cons (ps_if (pt_cmpR op_eq (pv 1) (pe_gS T.c_NOTHING) (nomark _)) (pss_one (ps_ret (pe_callB call_len_seq (by rfl) T.b_len (by decide +kernel) (pa_cons (pv 0) pa_nil)))) pss_nil)
      (pss_one (ps_ret (pe_ifExp (pt_cmpR op_eq (pv 1) (pe_gS T.c_YES) (nomark _)) (pe_op op_add (pe_callB call_len_seq (by rfl) T.b_len (by decide +kernel) (pa_cons (pv 0) pa_nil)) pe_int) (pe_bmX PySem.F.slot_tuple_index PySem.F.type_tuple_index mt_tup_index (pv 0) (pa_cons (pv 1) pa_nil)))))), ?_⟩
    refine ⟨_, rfl, rfl, _, rfl, ?_⟩
    unfold plF at q
    refine ite2 (fun h => ?_) (fun h => ?_)
    · have e : z = "nothing" := by simpa using of_decide_eq_true h
      rw [if_pos e] at q
      refine ⟨_, rfl, pn, _, rfl, .inr hz.sq, ?_⟩
      rw [List.length_map]
      exact q
    · have e : ¬ z = "nothing" := fun e => h (by rw [e]; exact decide_eq_true rfl)
      rw [if_neg e] at q
      refine ⟨_, rfl, rfl, _, rfl, ?_⟩
      refine ite2 (fun h2 => ?_) (fun h2 => ?_)
      · have e2 : z = "yes" := by simpa using of_decide_eq_true h2
        rw [if_pos e2] at q
        refine ⟨_, rfl, pn, _, rfl, .inr hz.sq, _, _, rfl, rfl, ?_⟩
        rw [List.length_map]
        exact q
      · have e2 : ¬ z = "yes" := fun e => h2 (by rw [e]; exact decide_eq_true rfl)
        rw [if_neg e2] at q
        have mem : z ∈ zs := (cv.resolve_left e).resolve_left e2
        obtain ⟨a1, a2⟩ := ixS_at mem
        exact ⟨_, rfl, ⟨_, _, rfl, hz⟩, _, rfl, pn, zs, z, _, rfl, rfl, hz.sq, a1, a2, q⟩
def spPartsR (K : PySem.W.Frag) (A : Ads) : Sp := fun vs H Q _ => ∃ (pn p : Addr) (zs : List Str) (k : Nat) (xs : List Str) (line : Str), vs = [.ref pn, .ref p] ∧ TX H pn (zs.map V.str) ∧ zs.length ≤ 10 ∧ StT K A H p (.one k xs line) ∧ One k xs line ∧ k ≠ 5 ∧ (∀ z ∈ (fdO k xs).ment, Cv zs z) ∧
  ∀ (l : Addr) (us : List V) (H' : Hp), Same H H' → H' l = some (.tup us) → RcsAt K H' us (partsR zs k xs) → us.length ≤ 5 → Q (.ref l) H'
theorem ok_parts_of_row (T : Txt K mg A) : FnOk P w K mg base CX0 2 A.a_parts_of_row A.d_parts_of_row ["names", "part"] (spPartsR K A) := by
  have nd := sc_parts_of_row.nd
  refine T.f_parts_of_row.ok sc_parts_of_row (fun vs H Q E h => ?_) (fun cdv A' outer s H vs Q E hr h => ?_)
  · obtain ⟨pn, p, zs, k, xs, line, rfl, _⟩ := h
    rfl
  · obtain ⟨pn, p, zs, k, xs, line, rfl, hz, lz, st, o, k5, cv, q⟩ := h
    obtain ⟨bs, os, sa, sb, so⟩ := st.at
    obtain ⟨C0, dx0, fs0, ps, pr, pb, po, h1, h2, h3, h4, h5, h6, h7, h8, h9, h10, h11, h12⟩ := sa
    obtain ⟨C, dx, fs, pm, g1, gn, g2, g3, g4, g5, g6⟩ := st.fd
    rw [h2] at g1
    cases g1
    have fc := T.fam C0 (List.mem_of_getElem? h1)
    obtain ⟨u, z, hzz, con⟩ := con_k T h1
    have fld : ∀ f, f ∈ famAttrs → NoAttr K C0 f := fc.na
    refine ⟨_, (pss_cons (ps_set (i := 2) nd rfl (Or.inl rfl) (pe_con (pv 1) rfl))
      (pss_cons (ps_if (pt_cmpR op_eq (pv 2) pe_str (nomark _)) (pss_one (ps_ret (pe_tup (pa_cons (pe_fld (pv 1) rfl) (pa_cons (pe_call (ok_place_of T) (hr.mono (by decide)) (by rfl) T.m_place_of T.k_place_of T.v_place_of .nil pass0 (pa_cons (pv 0) (pa_cons (pe_fld (pv 1) rfl) pa_nil))) pa_nil))))) pss_nil)
      (pss_cons (ps_if (pt_cmpR op_eq (pv 2) pe_str (nomark _)) (pss_one (ps_ret (pe_tup (pa_cons (pe_fld (pv 1) rfl) (pa_cons (pe_call (ok_place_of T) (hr.mono (by decide)) (by rfl) T.m_place_of T.k_place_of T.v_place_of .nil pass0 (pa_cons (pv 0) (pa_cons (pe_fld (pv 1) rfl) pa_nil))) pa_nil))))) pss_nil)
      (pss_cons (ps_if (pt_cmpR op_eq (pv 2) pe_str (nomark _)) (pss_one (ps_ret (pe_tup (pa_cons (pe_fld (pv 1) rfl) (pa_cons (pe_call (ok_place_of T) (hr.mono (by decide)) (by rfl) T.m_place_of T.k_place_of T.v_place_of .nil pass0 (pa_cons (pv 0) (pa_cons (pe_fld (pv 1) rfl) pa_nil))) (pa_cons (pe_call (ok_place_of T) (hr.mono (by decide)) (by rfl) T.m_place_of T.k_place_of T.v_place_of .nil pass0 (pa_cons (pv 0) (pa_cons (pe_fld (pv 1) rfl) pa_nil))) pa_nil)))))) pss_nil)
      (pss_cons (ps_if (pt_cmpR op_eq (pv 2) pe_str (nomark _)) (pss_one (ps_ret (pe_tup (pa_cons (pe_fld (pv 1) rfl) (pa_cons (pe_call (ok_place_of T) (hr.mono (by decide)) (by rfl) T.m_place_of T.k_place_of T.v_place_of .nil pass0 (pa_cons (pv 0) (pa_cons (pe_fld (pv 1) rfl) pa_nil))) (pa_cons (pe_call (ok_place_of T) (hr.mono (by decide)) (by rfl) T.m_place_of T.k_place_of T.v_place_of .nil pass0 (pa_cons (pv 0) (pa_cons (pe_fld (pv 1) rfl) pa_nil))) (pa_cons (pe_call (ok_place_of T) (hr.mono (by decide)) (by rfl) T.m_place_of T.k_place_of T.v_place_of .nil pass0 (pa_cons (pv 0) (pa_cons (pe_fld (pv 1) rfl) pa_nil))) pa_nil))))))) pss_nil)
      (pss_cons (ps_if (pt_cmpR op_eq (pv 2) pe_str (nomark _)) (pss_one (ps_ret (pe_tup (pa_cons (pe_call (ok_place_of T) (hr.mono (by decide)) (by rfl) T.m_place_of T.k_place_of T.v_place_of .nil pass0 (pa_cons (pv 0) (pa_cons (pe_fld (pv 1) rfl) pa_nil))) (pa_cons (pe_call (ok_place_of T) (hr.mono (by decide)) (by rfl) T.m_place_of T.k_place_of T.v_place_of .nil pass0 (pa_cons (pv 0) (pa_cons (pe_fld (pv 1) rfl) pa_nil))) pa_nil))))) pss_nil)
      (pss_one (ps_ret (pe_tup (pa_cons (pe_call (ok_place_of T) (hr.mono (by decide)) (by rfl) T.m_place_of T.k_place_of T.v_place_of .nil pass0 (pa_cons (pv 0) (pa_cons (pe_fld (pv 1) rfl) pa_nil))) pa_nil)))))))))), ?_⟩
    refine ⟨_, rfl, p, C0, dx0, fs0, _, u, rfl, h2, fc.cl, con, h11, ?_⟩
    have nofi : ∀ {x y : Str}, x ≠ y → ¬ (decide (V.str x = V.str y) = true) := fun h e => h (by simpa using of_decide_eq_true e)
    cases o with
    | look hc hi =>
      cases hzz
      refine ⟨_, rfl, rfl, _, rfl, (if_pos (by decide +kernel)).mpr ?_⟩
      refine ⟨_, rfl, p, C0, dx0, fs0, _, rfl, h2, fc.cl, fld _ (by decide +kernel), g2, _, rfl, _, rfl, p, C0, dx0, fs0, _, rfl, h2, fc.cl, fld _ (by decide +kernel), g3, pn, zs, _, rfl, hz, lz, cv _ (by simp [fdO]), (by show 2 ≤ sizeLine; decide), fun l nl => q l _ _ (same_new nl) upd_same (.s (.n .nil)) (by show 2 ≤ 5; decide)⟩
    | put hc ho =>
      cases hzz
      refine ⟨_, rfl, rfl, _, rfl, (if_neg (by decide +kernel)).mpr ?_⟩
      refine ⟨_, rfl, rfl, _, rfl, (if_pos (by decide +kernel)).mpr ?_⟩
      refine ⟨_, rfl, p, C0, dx0, fs0, _, rfl, h2, fc.cl, fld _ (by decide +kernel), g2, _, rfl, _, rfl, p, C0, dx0, fs0, _, rfl, h2, fc.cl, fld _ (by decide +kernel), (g6 (("operand" : Str), _) (List.mem_cons_self ..)), pn, zs, _, rfl, hz, lz, cv _ (by simp [fdO]), (by show 2 ≤ sizeLine; decide), fun l nl => q l _ _ (same_new nl) upd_same (.s (.n .nil)) (by show 2 ≤ 5; decide)⟩
    | swap hc ho hi =>
      cases hzz
      refine ⟨_, rfl, rfl, _, rfl, (if_neg (by decide +kernel)).mpr ?_⟩
      refine ⟨_, rfl, rfl, _, rfl, (if_neg (by decide +kernel)).mpr ?_⟩
      refine ⟨_, rfl, rfl, _, rfl, (if_pos (by decide +kernel)).mpr ?_⟩
      refine ⟨_, rfl, p, C0, dx0, fs0, _, rfl, h2, fc.cl, fld _ (by decide +kernel), g2, _, rfl, _, rfl, p, C0, dx0, fs0, _, rfl, h2, fc.cl, fld _ (by decide +kernel), (g6 (("operand" : Str), _) (List.mem_cons_self ..)), pn, zs, _, rfl, hz, lz, cv _ (by simp [fdO]), _, rfl, _, rfl, p, C0, dx0, fs0, _, rfl, h2, fc.cl, fld _ (by decide +kernel), g3, pn, zs, _, rfl, hz, lz, cv _ (by simp [fdO]), (by show 3 ≤ sizeLine; decide), fun l nl => q l _ _ (same_new nl) upd_same (.s (.n (.n .nil))) (by show 3 ≤ 5; decide)⟩
    | try_ hc ho hn hi =>
      cases hzz
      refine ⟨_, rfl, rfl, _, rfl, (if_neg (by decide +kernel)).mpr ?_⟩
      refine ⟨_, rfl, rfl, _, rfl, (if_neg (by decide +kernel)).mpr ?_⟩
      refine ⟨_, rfl, rfl, _, rfl, (if_neg (by decide +kernel)).mpr ?_⟩
      refine ⟨_, rfl, rfl, _, rfl, (if_pos (by decide +kernel)).mpr ?_⟩
      refine ⟨_, rfl, p, C0, dx0, fs0, _, rfl, h2, fc.cl, fld _ (by decide +kernel), g2, _, rfl, _, rfl, p, C0, dx0, fs0, _, rfl, h2, fc.cl, fld _ (by decide +kernel), (g6 (("old" : Str), _) (List.mem_cons_self ..)), pn, zs, _, rfl, hz, lz, cv _ (by simp [fdO]), _, rfl, _, rfl, p, C0, dx0, fs0, _, rfl, h2, fc.cl, fld _ (by decide +kernel), (g6 (("new" : Str), _) (List.mem_cons_of_mem _ (List.mem_cons_self ..))), pn, zs, _, rfl, hz, lz, cv _ (by simp [fdO]), _, rfl, _, rfl, p, C0, dx0, fs0, _, rfl, h2, fc.cl, fld _ (by decide +kernel), g3, pn, zs, _, rfl, hz, lz, cv _ (by simp [fdO]), (by show 4 ≤ sizeLine; decide), fun l nl => q l _ _ (same_new nl) upd_same (.s (.n (.n (.n .nil)))) (by show 4 ≤ 5; decide)⟩
    | let_ hi ho =>
      cases hzz
      refine ⟨_, rfl, rfl, _, rfl, (if_neg (by decide +kernel)).mpr ?_⟩
      refine ⟨_, rfl, rfl, _, rfl, (if_neg (by decide +kernel)).mpr ?_⟩
      refine ⟨_, rfl, rfl, _, rfl, (if_neg (by decide +kernel)).mpr ?_⟩
      refine ⟨_, rfl, rfl, _, rfl, (if_neg (by decide +kernel)).mpr ?_⟩
      refine ⟨_, rfl, rfl, _, rfl, (if_pos (by decide +kernel)).mpr ?_⟩
      refine ⟨_, rfl, _, rfl, p, C0, dx0, fs0, _, rfl, h2, fc.cl, fld _ (by decide +kernel), (g6 (("operand" : Str), _) (List.mem_cons_self ..)), pn, zs, _, rfl, hz, lz, cv _ (by simp [fdO]), _, rfl, _, rfl, p, C0, dx0, fs0, _, rfl, h2, fc.cl, fld _ (by decide +kernel), g3, pn, zs, _, rfl, hz, lz, cv _ (by simp [fdO]), (by show 2 ≤ sizeLine; decide), fun l nl => q l _ _ (same_new nl) upd_same (.n (.n .nil)) (by show 2 ≤ 5; decide)⟩
    | leave => exact absurd rfl k5
    | ret ho =>
      cases hzz
      refine ⟨_, rfl, rfl, _, rfl, (if_neg (by decide +kernel)).mpr ?_⟩
      refine ⟨_, rfl, rfl, _, rfl, (if_neg (by decide +kernel)).mpr ?_⟩
      refine ⟨_, rfl, rfl, _, rfl, (if_neg (by decide +kernel)).mpr ?_⟩
      refine ⟨_, rfl, rfl, _, rfl, (if_neg (by decide +kernel)).mpr ?_⟩
      refine ⟨_, rfl, rfl, _, rfl, (if_neg (by decide +kernel)).mpr ?_⟩
      refine ⟨_, rfl, _, rfl, p, C0, dx0, fs0, _, rfl, h2, fc.cl, fld _ (by decide +kernel), (g6 (("operand" : Str), _) (List.mem_cons_self ..)), pn, zs, _, rfl, hz, lz, cv _ (by simp [fdO]), (by show 1 ≤ sizeLine; decide), fun l nl => q l _ _ (same_new nl) upd_same (.n .nil) (by show 1 ≤ 5; decide)⟩
def spMoved (K : PySem.W.Frag) : Sp := fun vs H Q _ => ∃ (pl : Addr) (by_ : Nat) (ps : List Addr) (rs : List Rw), vs = [.ref pl, .int (by_ : Nat)] ∧ SqL K H pl (ps.map V.ref) ∧ RwsAt K H ps rs ∧ (∀ r ∈ rs, okR r) ∧ (∀ r ∈ rs, r.xs.length ≤ 10) ∧ rs.length ≤ 2000 ∧
  ∀ (l : Addr) (qs : List Addr) (H' : Hp), Same H H' → H l = none → H' l = some (.lst (qs.map V.ref)) → RwsAt K H' qs (rs.map (mvR by_)) → Q (.ref l) H'
theorem ok_moved (T : Txt K mg A) : FnOk P w K mg base CX0 1 A.a_moved A.d_moved ["rows", "by"] (spMoved K) := by
  have nd := sc_moved.nd
  refine T.f_moved.ok sc_moved (fun vs H Q E h => ?_) (fun cdv A' outer s H vs Q E hr h => ?_)
  · obtain ⟨pl, b, ps, rs, rfl, _⟩ := h
    rfl
  · obtain ⟨pl, by_, ps, rs, rfl, hp, ra, okr, few, lrs, q⟩ := h
    have lps := ra.len
    refine ⟨_, (pss_one (ps_ret (pe_lc (own := [("row", 2)]) (g := gName 2) (tt := tYes) rfl nd (pi_list (pv 0)) (blkOk_by (N := nm_moved) (sc := defScope st_moved) (by decide +kernel)) (fun _ _ _ _ _ => (pg_name (i := 2) nd rfl (Or.inl rfl))) (fun _ _ _ _ _ => pts_nil) (fun _ _ _ _ _ => (pe_ifExp (pt_cmpR (show OpR _ _ (rIn K false) from op_in_seq) (pe_ix (show IxR _ (rIxT K) from ix_tup) (pv 2) pe_int (fun _ _ => rfl)) (pe_tup (pa_cons pe_str (pa_cons pe_str pa_nil))) (by rfl)) (pe_op (show OpR _ _ (rCatX K) from op_catX) (pe_slice (show SlR _ (rSlX1 K) from sl_tupX) (pv 2) po_none (po_some (pe_un un_neg pe_int))) (pe_tup (pa_cons (pe_op op_add (pe_ix (show IxR _ (rIxT K) from ix_tup) (pv 2) (pe_un un_neg pe_int) (fun _ _ => rfl)) (pv 1)) pa_nil))) (pv 2)))))), ?_⟩
    refine ⟨_, rfl, pl, rfl, ⟨_, hp⟩, fun D hD => lc_it (walk_list (K := K) (a := pl) (xs := ps.map V.ref)) (fun i H6 => Same H H6 ∧ ∃ qs : List Addr, H6 D = some (.lst (qs.map V.ref)) ∧ RwsAt K H6 qs ((rs.take i).map (mvR by_))) ⟨same_new hD, [], upd_same, .nil⟩ (fun i H6 _ h => h.1.seq hp) ?_ ?_⟩
    · rintro i x H6 H7 hi ⟨s6, qs, hd, rq⟩ ⟨rfl, hx⟩
      rw [List.getElem?_map] at hx
      obtain ⟨p, hp2, rfl⟩ := Option.map_eq_some_iff.mp hx
      obtain ⟨r, hr2, rp⟩ := (ra.mv (KpT.of_same s6)).get hp2
      have hil : i < rs.length := (List.getElem?_eq_some_iff.mp hr2).1
      have okr := okr r (List.mem_of_getElem? hr2)
      have few := few r (List.mem_of_getElem? hr2)
      have lq := rq.len
      rw [List.length_map, List.length_take] at lq
      have tk : (rs.take (i + 1)).map (mvR by_) = (rs.take i).map (mvR by_) ++ [mvR by_ r] := by
        rw [List.take_add_one, hr2, List.map_append]
        rfl
      have tail : ∀ (p2 : Addr) (H8 : Hp), Same H7 H8 → RwAt K H8 p2 (mvR by_ r) → ∃ acc, H8 D = some (.lst acc) ∧ acc.length < sizeLine ∧ Same H (upd H8 D (.lst (acc ++ [V.ref p2]))) ∧ ∃ qs : List Addr, (upd H8 D (.lst (acc ++ [V.ref p2]))) D = some (.lst (qs.map V.ref)) ∧ RwsAt K (upd H8 D (.lst (acc ++ [V.ref p2]))) qs ((rs.take (i + 1)).map (mvR by_)) := by
        intro p2 H8 s8 r8
        have hd8 := s8 _ _ hd
        have k8 : KpT H8 (upd H8 D (.lst (qs.map V.ref ++ [V.ref p2]))) := KpT.lst hd8 fun b o nb e => (upd_ne nb).trans e
        refine ⟨_, hd8, ?_, ?_, qs ++ [p2], ?_, ?_⟩
        · rw [List.length_map]
          exact lt5000 (by omega)
        · intro b o e
          rw [upd_ne (ne_of_none e hD)]
          exact s8 _ _ (s6 _ _ e)
        · rw [upd_same]
          simp
        · rw [tk]
          exact ((rq.mv (KpT.of_same s8)).mv k8).app (.cons (r8.mv k8) .nil)
      cases rp with
      | mk hsq c =>
        rename_i w vs xs
        have lc := c.len
        have few : xs.length ≤ 10 := few
        refine ⟨rfl, _, rfl, p, _, _, _, rfl, rfl, hsq, atI_nat (j := 0) rfl, (by show 2 ≤ sizeLine; decide), fun q1 n1 => ⟨q1, _, rfl, Or.inr (SqT.of upd_same), rfl, rfl, _, rfl, ?_⟩⟩
        have s7 := same_new (o := .tup [.str "test", .str "jump"]) n1
        refine ite2 (fun hin => ?_) (fun hin => ?_)
        · have g : goesW w = true := hin
          obtain ⟨ys, j, e⟩ := okr g
          have e : xs = ys ++ [.n j] := e
          subst e
          obtain ⟨us, rfl, cu⟩ := c.last
          have hsq7 := (KpT.of_same s7).sq hsq
          rw [List.length_append, List.length_append] at lc
          rw [List.length_append] at few
          have lc : us.length = ys.length := by
            have : us.length + 1 = ys.length + 1 := lc
            omega
          have few : ys.length + 1 ≤ 10 := few
          refine ⟨_, rfl, 1, rfl, -1, rfl, slX_ok hsq7 fun p1 H8 s8 h8 => ?_⟩
          have e8 : cutV (.str w :: (us ++ [V.int (j : Nat)])) none (some (-1)) = .str w :: us := cut_init (.str w :: us) _
          rw [e8] at h8
          have hsq8 := (KpT.of_same s8).sq hsq7
          refine ⟨_, rfl, 1, rfl, p, .str w :: (us ++ [V.int (j : Nat)]), -1, .int (j : Nat), rfl, rfl, hsq8, (atI_last (V.str w :: us) (V.int ((j : Nat) : Int))), _, rfl, _, _, rfl, rfl, (by show 1 ≤ sizeLine; decide), fun p2 n2 => ?_⟩
          have s9 := same_new (o := .tup [.int ((j : Nat) + (by_ : Nat) : Int)]) n2
          refine catX_ok ((KpT.of_same s9).sq h8) (SqT.of upd_same) ?_ fun p3 H10 s10 h10 => ?_
          · show us.length + 1 + 1 ≤ sizeLine
            exact len5000 (by omega)
          refine tail p3 H10 (((s7.trans s8).trans s9).trans s10) ?_
          rw [mvR_go g]
          have h10 : SqT K H10 p3 (.str w :: (us ++ [.int ((j + by_ : Nat) : Int)])) := by
            have e : ((j + by_ : Nat) : Int) = ((j : Nat) : Int) + ((by_ : Nat) : Int) := by omega
            rw [e]
            exact h10
          exact .mk h10 ((cu.mv ((((KpT.of_same s7).trans (KpT.of_same s8)).trans (KpT.of_same s9)).trans (KpT.of_same s10))).app (.n .nil))
        · have g : ¬ goesW w = true := hin
          refine ⟨_, rfl, ?_⟩
          refine tail p _ s7 ?_
          rw [mvR_no g]
          exact (RwAt.mk hsq c).mv (KpT.of_same s7)
    · rintro H6 ⟨s6, qs, hd, rq⟩
      rw [List.length_map, lps, List.take_length] at rq
      exact q D qs H6 s6 hD hd rq
end
end K07
set_option Elab.async false
set_option linter.all false
set_option maxRecDepth 100000
set_option maxHeartbeats 4000000
namespace K07
open PySem PySem.Spec PyProof.Rows L2 Mo
theorem partsR_few (zs : List Str) (k : Nat) (xs : List Str) : (partsR zs k xs).length ≤ 10 := by
  unfold partsR
  split <;> simp
theorem mvR_few {by_ : Nat} {r : Rw} (ok : okR r) (h : r.xs.length ≤ 10) : (mvR by_ r).xs.length ≤ 10 := by
  cases r with
  | mk w xs =>
    by_cases g : goesW w = true
    · obtain ⟨ys, i, e⟩ := ok g
      have e : xs = ys ++ [.n i] := e
      have h : xs.length ≤ 10 := h
      subst e
      rw [mvR_go g]
      show (ys ++ [Rc.n (i + by_)]).length ≤ 10
      rw [List.length_append] at h ⊢
      exact h
    · rw [mvR_no g]
      exact h
mutual
theorem rowsF_few (zs : List Str) : ∀ t : Tr, ∀ r ∈ rowsF zs t, r.xs.length ≤ 10
  | .one k xs l => by
    intro r hr
    simp only [rowsF, List.mem_singleton] at hr
    subst hr
    exact partsR_few zs k xs
  | .cond l r b e => by
    intro x hx
    simp only [rowsF, List.mem_append, List.mem_singleton, List.mem_map] at hx
    rcases hx with ((rfl | ⟨y, hy, rfl⟩) | rfl) | ⟨y, hy, rfl⟩
    · show 3 ≤ 10; decide
    · exact mvR_few (codeA_ok zs b 0 y hy) (codeA_few zs b 0 y hy)
    · show 1 ≤ 10; decide
    · exact mvR_few (codeA_ok zs e 0 y hy) (codeA_few zs e 0 y hy)
  | .loop b => by
    intro x hx
    simp only [rowsF, List.mem_append, List.mem_singleton, List.mem_map] at hx
    rcases hx with ⟨y, hy, rfl⟩ | rfl
    · by_cases c : y.w = ("leave" : Str)
      · rw [if_pos c]
        show 1 ≤ 10; decide
      · rw [if_neg c]
        exact codeA_few zs b 0 y hy
    · show 1 ≤ 10; decide
  | .joined b => by
    intro x hx
    simp only [rowsF, List.mem_singleton] at hx
    subst hx
    show 1 ≤ 10; decide
theorem codeA_few (zs : List Str) : ∀ (ts : List Tr) (off : Nat), ∀ r ∈ codeA zs off ts, r.xs.length ≤ 10
  | [], off => by
    rw [codeA_nil]
    exact fun r h => (List.not_mem_nil h).elim
  | t :: ts, off => by
    rw [codeA_cons]
    intro r hr
    rcases List.mem_append.mp hr with h | h
    · obtain ⟨y, hy, rfl⟩ := List.mem_map.mp h
      exact mvR_few (rowsF_ok zs t y hy) (rowsF_few zs t y hy)
    · exact codeA_few zs ts _ r h
end
def wf1 : Tr → Prop
  | .one k xs l => One k xs l
  | _ => True
def CdOk (zs : List Str) (us : List Tr) : Prop := ∀ u ∈ us, (∀ z ∈ (fdT u).ment, Cv zs z) ∧ wf1 u
theorem CdOk.of {zs : List Str} {us vs : List Tr} (h : CdOk zs us) (e : ∀ v ∈ vs, v ∈ us) : CdOk zs vs := fun v hv => h v (e v hv)
theorem allB_mem : ∀ {ts : List Tr} {t : Tr}, t ∈ ts → ∀ u ∈ allT t, u ∈ allB ts
  | [], _, h => (List.not_mem_nil h).elim
  | v :: ts, t, h => by
    intro u hu
    rw [allB_cons]
    rcases List.mem_cons.mp h with rfl | h
    · exact List.mem_append_left _ hu
    · exact List.mem_append_right _ (allB_mem h u hu)
theorem allT_inner (t : Tr) : ∀ u ∈ allB t.inner, u ∈ allT t := by
  intro u hu
  rw [allT_eq, allB_app]
  exact List.mem_cons_of_mem _ (List.mem_append_left _ hu)
theorem allT_outer (t : Tr) : ∀ u ∈ allB t.outer, u ∈ allT t := by
  intro u hu
  rw [allT_eq, allB_app]
  exact List.mem_cons_of_mem _ (List.mem_append_right _ hu)
theorem allT_self (t : Tr) : t ∈ allT t := by
  rw [allT_eq]
  exact List.mem_cons_self
theorem kw_is : ∀ j < 10, ∀ k < 10, ∀ z, kwords[k]? = some z → decide (V.str z = V.str (kwords.getD j "")) = (k == j) := by
  intro j hj k hk z hz
  have h : (List.range 10).all (fun j => (List.range 10).all fun k => (kwords[k]?.map fun z => decide (V.str z = V.str (kwords.getD j "")) == (k == j)).getD true) = true := by decide +kernel
  have := List.all_eq_true.mp (List.all_eq_true.mp h j (List.mem_range.mpr hj)) k (List.mem_range.mpr hk)
  rw [hz] at this
  exact beq_iff_eq.mp this
theorem kw_no {j k : Nat} {z : Str} (hj : j < 10) (hk : k < 10) (hz : kwords[k]? = some z) (n : k ≠ j) : ¬ decide (V.str z = V.str (kwords.getD j "")) = true := by
  rw [kw_is j hj k hk z hz]
  simpa using n
theorem kw_yes {j : Nat} {z : Str} (hj : j < 10) (hz : kwords[j]? = some z) : decide (V.str z = V.str (kwords.getD j "")) = true := by
  rw [kw_is j hj j hj z hz]
  simp
theorem One.k7 {k : Nat} {xs : List Str} {l : Str} (o : One k xs l) : k < 7 := by cases o <;> decide
section
variable {w : World} {K : PySem.W.Frag} {mg : Str → Option Value} {base : Heap} {A : Ads}
def spCode (K : PySem.W.Frag) (A : Ads) (n : Nat) : Sp := fun vs H Q _ => ∃ (pn pb : Addr) (zs : List Str) (bs : List Addr) (ts : List Tr), vs = [.ref pn, .ref pb] ∧ TX H pn (zs.map V.str) ∧ zs.length ≤ 10 ∧ SqT K H pb (bs.map V.ref) ∧ StsT K A H bs ts ∧ lvB ts < n ∧ amB ts ≤ 500 ∧ CdOk zs (allB ts) ∧
  ∀ (l : Addr) (qs : List Addr) (H' : Hp), Same H H' → H l = none → H' l = some (.lst (qs.map V.ref)) → RwsAt K H' qs (codeB zs ts) → Q (.ref l) H'
def spRowsOf (K : PySem.W.Frag) (A : Ads) (n : Nat) : Sp := fun vs H Q _ => ∃ (pn p : Addr) (zs : List Str) (t : Tr), vs = [.ref pn, .ref p] ∧ TX H pn (zs.map V.str) ∧ zs.length ≤ 10 ∧ StT K A H p t ∧ lvT t ≤ n ∧ amT t ≤ 500 ∧ CdOk zs (allT t) ∧
  ∀ (l : Addr) (qs : List Addr) (H' : Hp), Same H H' → H l = none → H' l = some (.lst (qs.map V.ref)) → RwsAt K H' qs (rowsF zs t) → Q (.ref l) H'
theorem code_step (T : Txt K mg A) (n : Nat) (ih : FnOk P w K mg base CX0 (2 * n + 4) A.a_rows_of A.d_rows_of ["names", "part"] (spRowsOf K A n)) :
    FnOk P w K mg base CX0 (2 * n + 5) A.a_coded_rows A.d_coded_rows ["names", "body"] (spCode K A (n + 1)) := by
  have nd := sc_coded_rows.nd
  refine T.f_coded_rows.ok sc_coded_rows (fun vs H Q E h => ?_) (fun cdv A' outer s H vs Q E hr h => ?_)
  · obtain ⟨pn, pb, zs, bs, ts, rfl, _⟩ := h
    rfl
  · obtain ⟨pn, pb, zs, bs, ts, rfl, hz, lz, hb, st, ln, am, cd, q⟩ := h
    have lbs := st.len
    refine ⟨_, (pss_cons (ps_set (i := 2) nd rfl (Or.inl rfl) (pe_lst pa_nil))
      (pss_cons (ps_for PassesOwn.never rfl (pi_tup (pv 1)) (pg_name (i := 3) nd rfl (Or.inl rfl)) (pss_one (ps_expr (pe_bm PySem.F.plainAttrs_list PySem.F.slot_list_extend PySem.F.type_list_extend mt_extend (pv 2) (pa_cons (pe_call (ok_moved T) (hr.mono (by omega)) (by rfl) T.m_moved T.k_moved T.v_moved .nil pass0 (pa_cons (pe_call ih (hr.mono (by omega)) (by rfl) T.m_rows_of T.k_rows_of T.v_rows_of .nil pass0 (pa_cons (pv 0) (pa_cons (pv 3) pa_nil))) (pa_cons (pe_callB call_len_seq (by rfl) T.b_len (by decide +kernel) (pa_cons (pv 2) pa_nil)) pa_nil))) pa_nil)))))
      (pss_one (ps_ret (pv 2))))), ?_⟩
    refine ⟨Nat.zero_le _, fun f nf => ?_⟩
    have s0 := same_new (o := .lst []) nf
    refine ⟨_, rfl, pb, rfl, ⟨_, (KpT.of_same s0).sq hb⟩, for_it (walk_tup (K := K) (a := pb) (xs := bs.map V.ref)) (fun i σ H2 => Same H H2 ∧ ∃ (v3 : Option V) (qs : List Addr), σ = [some (.ref pn), some (.ref pb), some (.ref f), v3] ∧ H2 f = some (.lst (qs.map V.ref)) ∧ RwsAt K H2 qs (codeB zs (ts.take i)))
      ⟨s0, none, [], rfl, upd_same, by rw [List.take_zero]; show RwsAt K _ [] (codeA zs 0 []); rw [codeA_nil]; exact .nil⟩ (fun i σ H2 _ h => (KpT.of_same h.1).sq hb) ?_ ?_⟩
    · rintro i x σ H1 H2 hi ⟨s2, v3, qs, rfl, hf, rq⟩ ⟨rfl, hx⟩
      rw [List.getElem?_map] at hx
      obtain ⟨p, hp, rfl⟩ := Option.map_eq_some_iff.mp hx
      obtain ⟨t, ht, stp⟩ := (st.mv (KpT.of_same s2)).get hp
      have mt := List.mem_of_getElem? ht
      have lt : lvT t ≤ lvB ts := lvB_mem mt
      have at_ : amT t ≤ amB ts := amB_mem mt
      have tk : codeB zs (ts.take (i + 1)) = codeB zs (ts.take i) ++ (rowsF zs t).map (mvR (codeB zs (ts.take i)).length) := by
        rw [List.take_add_one, ht]
        show codeA zs 0 (ts.take i ++ [t]) = _
        rw [codeA_snoc, Nat.zero_add]
      have l1 : (codeB zs (ts.take i)).length ≤ 2 * amB (ts.take i) := codeA_len zs (ts.take i) 0
      have l2 := rowsF_len zs t
      have amt : amB (ts.take i) ≤ amB ts := by
        have e : amB ts = amB (ts.take i) + amB (ts.drop i) := by rw [← amB_app, List.take_append_drop]
        omega
      have lq := rq.len
      refine ⟨_, rfl, .inl ⟨rfl, _, SqL.of hf⟩, ?_⟩
      refine ⟨_, rfl, _, rfl, pn, p, zs, t, rfl, hz.same s2, lz, stp, by omega, by omega, cd.of (allB_mem mt), fun l4 q4 H4 s4 n4 hl4 r4 => ?_⟩
      have hf4 := s4 _ _ hf
      refine ⟨_, rfl, f, _, rfl, .inl (SqL.of hf4), ?_⟩
      rw [List.length_map]
      refine ⟨l4, qs.length, q4, rowsF zs t, rfl, SqL.of hl4, r4, rowsF_ok zs t, rowsF_few zs t, by omega, fun l5 q5 H5 s5 n5 hl5 r5 => ?_⟩
      have l5l := r5.len
      rw [List.length_map] at l5l
      have hf5 := s5 _ _ hf4
      refine ⟨f, l5, _, _, rfl, rfl, hf5, hl5, ?_, ?_⟩
      · rw [List.length_map, List.length_map]
        exact len5000 (by omega)
      have s6 : Same H (upd H5 f (.lst (qs.map V.ref ++ q5.map V.ref))) := fun b o e => (upd_ne (ne_of_none e nf)).trans (s5 _ _ (s4 _ _ (s2 _ _ e)))
      have k6 : KpT H5 (upd H5 f (.lst (qs.map V.ref ++ q5.map V.ref))) := KpT.lst hf5 fun b o nb e => (upd_ne nb).trans e
      refine ⟨s6, _, qs ++ q5, rfl, ?_, ?_⟩
      · rw [upd_same]
        simp
      · rw [tk]
        rw [lq] at r5
        exact ((rq.mv (((KpT.of_same s4).trans (KpT.of_same s5)).trans k6))).app (r5.mv k6)
    · rintro σ H2 ⟨s2, v3, qs, rfl, hf, rq⟩
      rw [List.length_map, lbs, List.take_length] at rq
      exact ⟨_, rfl, q f qs H2 s2 nf hf rq⟩
theorem rows_step (T : Txt K mg A) (n : Nat) (ih : FnOk P w K mg base CX0 (2 * n + 3) A.a_coded_rows A.d_coded_rows ["names", "body"] (spCode K A n)) :
    FnOk P w K mg base CX0 (2 * n + 4) A.a_rows_of A.d_rows_of ["names", "part"] (spRowsOf K A n) := by
  have nd := sc_rows_of.nd
  refine T.f_rows_of.ok sc_rows_of (fun vs H Q E h => ?_) (fun cdv A' outer s H vs Q E hr h => ?_)
  · obtain ⟨pn, p, zs, t, rfl, _⟩ := h
    rfl
  · obtain ⟨pn, p, zs, t, rfl, hz, lz, st, ln, am, cd, q⟩ := h
    obtain ⟨bs, os, sa, sb, so⟩ := st.at
    obtain ⟨C0, dx0, fs0, ps, pr, pb, po, h1, h2, h3, h4, h5, h6, h7, h8, h9, h10, h11, h12⟩ := sa
    obtain ⟨C, dx, fs, pm, g1, gn, g2, g3, g4, g5, g6⟩ := st.fd
    rw [h2] at g1
    cases g1
    have fc := T.fam C0 (List.mem_of_getElem? h1)
    obtain ⟨u, z, hzz, con⟩ := con_k T h1
    have k10 : t.k < 10 := k_lt h1
    have fld : ∀ f, f ∈ famAttrs → NoAttr K C0 f := fc.na
    have cvt := cd t (allT_self t)
    have lvt := lvT_eq t
    have amt := amT_eq t
    refine ⟨_, (pss_cons (ps_set (i := 2) nd rfl (Or.inl rfl) (pe_con (pv 1) rfl))
      (pss_cons (ps_if (pt_cmpR op_eq (pv 2) pe_str (nomark _)) (pss_cons (ps_par (i := 3) (j := 4) rfl nd rfl rfl (by decide) rfl rfl (pa_cons (pe_call ih (hr.mono (by omega)) (by rfl) T.m_coded_rows T.k_coded_rows T.v_coded_rows .nil pass0 (pa_cons (pv 0) (pa_cons (pe_fld (pv 1) rfl) pa_nil))) (pa_cons (pe_call ih (hr.mono (by omega)) (by rfl) T.m_coded_rows T.k_coded_rows T.v_coded_rows .nil pass0 (pa_cons (pv 0) (pa_cons (pe_fld (pv 1) rfl) pa_nil))) pa_nil)) (by rfl))
      (pss_cons (ps_set (i := 5) nd rfl (Or.inl rfl) (pe_op op_add (pe_callB call_len_seq (by rfl) T.b_len (by decide +kernel) (pa_cons (pv 3) pa_nil)) pe_int))
      (pss_cons (ps_set (i := 6) nd rfl (Or.inl rfl) (pe_tup (pa_cons pe_str (pa_cons (pe_call (ok_place_of T) (hr.mono (by omega)) (by rfl) T.m_place_of T.k_place_of T.v_place_of .nil pass0 (pa_cons (pv 0) (pa_cons (pe_fld (pv 1) rfl) pa_nil))) (pa_cons (pe_call (ok_place_of T) (hr.mono (by omega)) (by rfl) T.m_place_of T.k_place_of T.v_place_of .nil pass0 (pa_cons (pv 0) (pa_cons (pe_fld (pv 1) rfl) pa_nil))) (pa_cons (pv 5) pa_nil))))))
      (pss_one (ps_ret (pe_op op_cat (pe_op op_cat (pe_op op_cat (pe_lst (pa_cons (pv 6) pa_nil)) (pe_call (ok_moved T) (hr.mono (by omega)) (by rfl) T.m_moved T.k_moved T.v_moved .nil pass0 (pa_cons (pv 3) (pa_cons pe_int pa_nil)))) (pe_lst (pa_cons (pe_tup (pa_cons pe_str (pa_cons (pe_op op_add (pv 5) (pe_callB call_len_seq (by rfl) T.b_len (by decide +kernel) (pa_cons (pv 4) pa_nil))) pa_nil))) pa_nil))) (pe_call (ok_moved T) (hr.mono (by omega)) (by rfl) T.m_moved T.k_moved T.v_moved .nil pass0 (pa_cons (pv 4) (pa_cons (pv 5) pa_nil))))))))) pss_nil)
      (pss_cons (ps_if (pt_cmpR op_eq (pv 2) pe_str (nomark _)) (pss_cons (ps_set (i := 7) nd rfl (Or.inl rfl) (pe_call ih (hr.mono (by omega)) (by rfl) T.m_coded_rows T.k_coded_rows T.v_coded_rows .nil pass0 (pa_cons (pv 0) (pa_cons (pe_fld (pv 1) rfl) pa_nil))))
      (pss_cons (ps_set (i := 8) nd rfl (Or.inr rfl) (pe_tup (pa_cons pe_str (pa_cons (pe_op op_add (pe_callB call_len_seq (by rfl) T.b_len (by decide +kernel) (pa_cons (pv 7) pa_nil)) pe_int) pa_nil))))
      (pss_one (ps_ret (pe_op op_cat (pe_lc (own := [("row", 9)]) (g := gName 9) (tt := tYes) rfl nd (pi_list (pv 7)) (blkOk_by (N := nm_rows_of) (sc := defScope st_rows_of) (by decide +kernel)) (fun _ _ _ _ _ => (pg_name (i := 9) nd rfl (Or.inl rfl))) (fun _ _ _ _ _ => pts_nil) (fun _ _ _ _ _ => (pe_ifExp (pt_cmpR op_eq (pe_ix (show IxR _ (rIxT K) from ix_tup) (pv 9) pe_int (fun _ _ => rfl)) pe_str (nomark _)) (pv 8) (pv 9)))) (pe_lst (pa_cons (pe_tup (pa_cons pe_str (pa_cons pe_int pa_nil))) pa_nil))))))) pss_nil)
      (pss_cons (ps_if (pt_cmpR op_eq (pv 2) pe_str (nomark _)) (pss_one (ps_ret (pe_lst (pa_cons (pe_tup (pa_cons pe_str (pa_cons (pe_callTy call_tuple_of (by rfl) T.b_tuple (by decide +kernel) (pa_cons (pe_call ih (hr.mono (by omega)) (by rfl) T.m_coded_rows T.k_coded_rows T.v_coded_rows .nil pass0 (pa_cons (pv 0) (pa_cons (pe_fld (pv 1) rfl) pa_nil))) pa_nil)) pa_nil))) pa_nil)))) pss_nil)
      (pss_cons (ps_if (pt_cmpR op_eq (pv 2) pe_str (nomark _)) (pss_one (ps_ret (pe_lst (pa_cons (pe_tup (pa_cons pe_str pa_nil)) pa_nil)))) pss_nil)
      (pss_one (ps_ret (pe_lst (pa_cons (pe_op op_catX (pe_tup (pa_cons (pv 2) pa_nil)) (pe_call (ok_parts_of_row T) (hr.mono (by omega)) (by rfl) T.m_parts_of_row T.k_parts_of_row T.v_parts_of_row .nil pass0 (pa_cons (pv 0) (pa_cons (pv 1) pa_nil)))) pa_nil))))))))), ?_⟩
    refine ⟨_, rfl, p, C0, dx0, fs0, _, u, rfl, h2, fc.cl, con, h11, ?_⟩
    cases t with
    | one k xs l =>
      have o : One k xs l := cvt.2
      have k7 := o.k7
      refine ⟨_, rfl, rfl, _, rfl, (if_neg (kw_no (j := 7) (by decide) k10 hzz (by show k ≠ 7; omega))).mpr ?_⟩
      refine ⟨_, rfl, rfl, _, rfl, (if_neg (kw_no (j := 8) (by decide) k10 hzz (by show k ≠ 8; omega))).mpr ?_⟩
      refine ⟨_, rfl, rfl, _, rfl, (if_neg (kw_no (j := 9) (by decide) k10 hzz (by show k ≠ 9; omega))).mpr ?_⟩
      have kz : kwords.getD k "" = z := by
        rw [List.getD_eq_getElem?_getD, show kwords[k]? = some z from hzz]
        rfl
      refine ⟨_, rfl, rfl, _, rfl, ?_⟩
      by_cases k5 : k = 5
      · subst k5
        refine (if_pos (kw_yes (j := 5) (by decide) hzz)).mpr ?_
        refine ⟨(by show 1 ≤ sizeLine; decide), fun p2 n2 => ⟨(by show 1 ≤ sizeLine; decide), fun l3 n3 => ?_⟩⟩
        have s2 := same_new (o := .tup [.str "leave"]) n2
        have s3 := same_new (o := .lst [.ref p2]) n3
        refine q l3 [p2] _ (s2.trans s3) (s2.free n3) upd_same ?_
        have e : rowsF zs (.one 5 xs l) = [.mk "leave" (partsR zs 5 xs)] := by rw [rowsF]; rfl
        rw [e]
        have e2 : partsR zs 5 xs = [] := rfl
        rw [e2]
        exact .cons (.mk (SqT.of (s3 _ _ upd_same)) .nil) .nil
      · refine (if_neg (kw_no (j := 5) (by decide) k10 hzz k5)).mpr ?_
        refine ⟨_, rfl, (by show 1 ≤ sizeLine; decide), fun p2 n2 => ?_⟩
        have s2 := same_new (o := .tup [.str z]) n2
        refine ⟨_, rfl, _, rfl, pn, p, zs, k, xs, l, rfl, hz.same s2, lz, st.mv (KpT.of_same s2), o, k5, cvt.1, fun p3 us H3 s3 h3 c3 l3 => ?_⟩
        refine catX_ok ((KpT.of_same s3).sq (SqT.of upd_same)) (SqT.of h3) (by show 1 + us.length ≤ sizeLine; exact len5000 (by omega)) fun p4 H4 s4 h4 => ⟨(by show 1 ≤ sizeLine; decide), fun l5 n5 => ?_⟩
        have s5 := same_new (o := .lst [.ref p4]) n5
        refine q l5 [p4] _ (((s2.trans s3).trans s4).trans s5) (((s2.trans s3).trans s4).free n5) upd_same ?_
        rw [rowsF, kz]
        exact .cons (.mk ((KpT.of_same s5).sq h4) ((c3.mv (KpT.of_same s4)).mv (KpT.of_same s5))) .nil
    | cond l r b e =>
      refine ⟨_, rfl, rfl, _, rfl, (if_pos (kw_yes (j := 7) (by decide) hzz)).mpr ?_⟩
      have lv : lvT (.cond l r b e) = 1 + max (lvB b) (lvB e) := lvt
      have am' : amT (.cond l r b e) = 1 + (amB b + amB e) := amt
      refine ⟨_, rfl, _, rfl, p, C0, dx0, fs0, _, rfl, h2, fc.cl, fld _ (by decide +kernel), h7, pn, pb, zs, bs, b, rfl, hz, lz, h8, sb, by omega, by omega, cd.of (allT_inner (.cond l r b e)), fun l3 q3 H3 s3 n3 h3 r3 => ?_⟩
      refine ⟨_, rfl, _, rfl, p, C0, dx0, fs0, _, rfl, s3 _ _ h2, fc.cl, fld _ (by decide +kernel), h9, pn, po, zs, os, e, rfl, hz.same s3, lz, (KpT.of_same s3).sq h10, so.mv (KpT.of_same s3), by omega, by omega, cd.of (allT_outer (.cond l r b e)), fun l4 q4 H4 s4 n4 h4' r4 => ⟨_, _, rfl, ?_⟩⟩
      have L3 := r3.len
      have L4 := r4.len
      have B3 : (codeB zs b).length ≤ 2 * amB b := codeA_len zs b 0
      have B4 : (codeB zs e).length ≤ 2 * amB e := codeA_len zs e 0
      have s34 := s3.trans s4
      refine ⟨_, rfl, l3, _, rfl, .inl (SqL.of (s4 _ _ h3)), _, _, rfl, rfl, ?_⟩
      rw [List.length_map]
      refine ⟨_, rfl, _, rfl, p, C0, dx0, fs0, _, rfl, s34 _ _ h2, fc.cl, fld _ (by decide +kernel), g6 (("left" : Str), _) (List.mem_cons_self ..), pn, zs, _, rfl, hz.same s34, lz, cvt.1 _ (List.mem_cons_self ..), ?_⟩
      refine ⟨_, rfl, _, rfl, p, C0, dx0, fs0, _, rfl, s34 _ _ h2, fc.cl, fld _ (by decide +kernel), g6 (("right" : Str), _) (List.mem_cons_of_mem _ (List.mem_cons_self ..)), pn, zs, _, rfl, hz.same s34, lz, cvt.1 _ (List.mem_cons_of_mem _ (List.mem_cons_self ..)), ?_⟩
      refine ⟨_, rfl, (by show 4 ≤ sizeLine; decide), fun p5 n5 => ?_⟩
      have s5 := same_new (o := .tup [.str "test", .int (plF zs l : Nat), .int (plF zs r : Nat), .int ((q3.length : Nat) + 2 : Int)]) n5
      refine ⟨_, rfl, (by show 1 ≤ sizeLine; decide), fun l6 n6 => ?_⟩
      have s6 := same_new (o := .lst [.ref p5]) n6
      have s46 := s5.trans s6
      refine ⟨_, rfl, l3, 1, q3, codeB zs b, rfl, SqL.of (s46 _ _ (s4 _ _ h3)), (r3.mv (KpT.of_same s4)).mv (KpT.of_same s46), codeA_ok zs b 0, codeA_few zs b 0, by omega, fun l7 q7 H7 s7 n7 h7' r7 => ?_⟩
      have L7 := r7.len
      rw [List.length_map] at L7
      refine ⟨l6, l7, _, _, rfl, rfl, s7 _ _ upd_same, h7', ?_, fun l8 n8 => ?_⟩
      · rw [List.length_map]
        show 1 + q7.length ≤ sizeLine
        exact len5000 (by omega)
      have s8 := same_new (o := .lst ([.ref p5] ++ q7.map V.ref)) n8
      have s48 := (s46.trans s7).trans s8
      refine ⟨_, rfl, _, rfl, l4, _, rfl, .inl (SqL.of (s48 _ _ h4')), _, _, rfl, rfl, ?_⟩
      rw [List.length_map]
      refine ⟨(by show 2 ≤ sizeLine; decide), fun p9 n9 => ⟨(by show 1 ≤ sizeLine; decide), fun l10 n10 => ?_⟩⟩
      have s9 := same_new (o := .tup [.str "jump", .int ((q3.length : Nat) + 2 + (q4.length : Nat) : Int)]) n9
      have s10 := same_new (o := .lst [.ref p9]) n10
      refine ⟨l8, l10, _, _, rfl, rfl, s10 _ _ (s9 _ _ upd_same), upd_same, ?_, fun l11 n11 => ?_⟩
      · rw [List.length_append, List.length_map]
        show 1 + q7.length + 1 ≤ sizeLine
        exact len5000 (by omega)
      have s11 := same_new (o := .lst ([.ref p5] ++ q7.map V.ref ++ [.ref p9])) n11
      have s411 := ((s48.trans s9).trans s10).trans s11
      refine ⟨_, rfl, _, rfl, l4, q3.length + 2, q4, codeB zs e, rfl, SqL.of (s411 _ _ h4'), r4.mv (KpT.of_same s411), codeA_ok zs e 0, codeA_few zs e 0, by omega, fun l12 q12 H12 s12 n12 h12' r12 => ?_⟩
      have L12 := r12.len
      rw [List.length_map] at L12
      refine ⟨l11, l12, _, _, rfl, rfl, s12 _ _ upd_same, h12', ?_, fun l13 n13 => ?_⟩
      · rw [List.length_append, List.length_append, List.length_map, List.length_map]
        show 1 + q7.length + 1 + q12.length ≤ sizeLine
        exact len5000 (by omega)
      have s13 := same_new (o := .lst ([.ref p5] ++ q7.map V.ref ++ [.ref p9] ++ q12.map V.ref)) n13
      have sAll := (s34.trans s411).trans s12
      refine q l13 ([p5] ++ q7 ++ [p9] ++ q12) _ (sAll.trans s13) (sAll.free n13) ?_ ?_
      · rw [upd_same]
        simp
      have t5 : SqT K (upd H12 l13 (.lst ([.ref p5] ++ q7.map V.ref ++ [.ref p9] ++ q12.map V.ref))) p5 [.str "test", .int (plF zs l : Nat), .int (plF zs r : Nat), .int ((q3.length : Nat) + 2 : Int)] := SqT.of (s13 _ _ (s12 _ _ (s11 _ _ (s10 _ _ (s9 _ _ (s8 _ _ (s7 _ _ (s6 _ _ upd_same))))))))
      have t9 : SqT K (upd H12 l13 (.lst ([.ref p5] ++ q7.map V.ref ++ [.ref p9] ++ q12.map V.ref))) p9 [.str "jump", .int ((q3.length : Nat) + 2 + (q4.length : Nat) : Int)] := SqT.of (s13 _ _ (s12 _ _ (s11 _ _ (s10 _ _ upd_same))))
      have e5 : (((q3.length : Nat) : Int) + 2) = ((((codeB zs b).length + 2 : Nat)) : Int) := by omega
      have e9 : (((q3.length : Nat) : Int) + 2 + ((q4.length : Nat) : Int)) = ((((codeB zs b).length + 2 + (codeB zs e).length : Nat)) : Int) := by omega
      rw [e5] at t5
      rw [e9] at t9
      rw [rowsF]
      rw [L3] at r12
      have r7' := r7.mv (KpT.of_same ((((s8.trans s9).trans s10).trans s11).trans (s12.trans s13)))
      exact (((RwsAt.cons (.mk t5 (.n (.n (.n .nil)))) .nil).app r7').app (.cons (.mk t9 (.n .nil)) .nil)).app (r12.mv (KpT.of_same s13))
    | loop b =>
      refine ⟨_, rfl, rfl, _, rfl, (if_neg (kw_no (j := 7) (by decide) k10 hzz (by show 8 ≠ 7; decide))).mpr ?_⟩
      refine ⟨_, rfl, rfl, _, rfl, (if_pos (kw_yes (j := 8) (by decide) hzz)).mpr ?_⟩
      have lv : lvT (.loop b) = 1 + max (lvB b) (lvB []) := lvt
      have am' : amT (.loop b) = 1 + (amB b + amB []) := amt
      refine ⟨_, rfl, _, rfl, p, C0, dx0, fs0, _, rfl, h2, fc.cl, fld _ (by decide +kernel), h7, pn, pb, zs, bs, b, rfl, hz, lz, h8, sb, by omega, by omega, cd.of (allT_inner (.loop b)), fun l3 q3 H3 s3 n3 h3 r3 => ?_⟩
      have L3 := r3.len
      have B3 : (codeB zs b).length ≤ 2 * amB b := codeA_len zs b 0
      refine ⟨_, rfl, l3, _, rfl, .inl (SqL.of h3), _, _, rfl, rfl, (by show 2 ≤ sizeLine; decide), fun p5 n5 => ?_⟩
      rw [List.length_map]
      have s5 := same_new (o := .tup [.str "jump", .int ((q3.length : Nat) + 1 : Int)]) n5
      have e5 : (((q3.length : Nat) : Int) + 1) = ((((codeB zs b).length + 1 : Nat)) : Int) := by omega
      refine ⟨_, rfl, l3, rfl, ⟨_, SqL.of (s5 _ _ h3)⟩, fun D hD => lc_it (walk_list (K := K) (a := l3) (xs := q3.map V.ref)) (fun i H6 => Same (upd H3 p5 (.tup [.str "jump", .int ((q3.length : Nat) + 1 : Int)])) H6 ∧ ∃ qs : List Addr, H6 D = some (.lst (qs.map V.ref)) ∧ RwsAt K H6 qs (((codeB zs b).take i).map fun r => if r.w = ("leave" : Str) then .mk "jump" [.n ((codeB zs b).length + 1)] else r)) ⟨same_new hD, [], upd_same, .nil⟩ (fun i H6 _ h => SqL.of (h.1 _ _ (s5 _ _ h3))) ?_ ?_⟩
      · rintro i x H6 H7 hi ⟨s6, qs, hd, rq⟩ ⟨rfl, hx⟩
        rw [List.getElem?_map] at hx
        obtain ⟨p6, hp6, rfl⟩ := Option.map_eq_some_iff.mp hx
        obtain ⟨r, hr2, rp⟩ := ((r3.mv (KpT.of_same s5)).mv (KpT.of_same s6)).get hp6
        have hil : i < (codeB zs b).length := (List.getElem?_eq_some_iff.mp hr2).1
        have few := codeA_few zs b 0 r (List.mem_of_getElem? hr2)
        have lq := rq.len
        rw [List.length_map, List.length_take] at lq
        have tail : ∀ (p2 : Addr), RwAt K H7 p2 (if r.w = ("leave" : Str) then .mk "jump" [.n ((codeB zs b).length + 1)] else r) → ∃ acc, H7 D = some (.lst acc) ∧ acc.length < sizeLine ∧ Same (upd H3 p5 (.tup [.str "jump", .int ((q3.length : Nat) + 1 : Int)])) (upd H7 D (.lst (acc ++ [V.ref p2]))) ∧
            ∃ qs : List Addr, (upd H7 D (.lst (acc ++ [V.ref p2]))) D = some (.lst (qs.map V.ref)) ∧ RwsAt K (upd H7 D (.lst (acc ++ [V.ref p2]))) qs (((codeB zs b).take (i + 1)).map fun r => if r.w = ("leave" : Str) then .mk "jump" [.n ((codeB zs b).length + 1)] else r) := by
          intro p2 r8
          have k8 : KpT H7 (upd H7 D (.lst (qs.map V.ref ++ [V.ref p2]))) := KpT.lst hd fun b o nb e => (upd_ne nb).trans e
          refine ⟨_, hd, ?_, ?_, qs ++ [p2], ?_, ?_⟩
          · rw [List.length_map]
            exact lt5000 (by omega)
          · intro b o e
            rw [upd_ne (ne_of_none e hD)]
            exact s6 _ _ e
          · rw [upd_same]
            simp
          · rw [List.take_add_one, hr2, List.map_append]
            exact (rq.mv k8).app (.cons (r8.mv k8) .nil)
        cases rp with
        | mk hsq c =>
          rename_i w' vs xs
          have lc := c.len
          have few : xs.length ≤ 10 := few
          refine ⟨rfl, _, rfl, p6, _, _, _, rfl, rfl, hsq, atI_nat (j := 0) rfl, rfl, _, rfl, ?_⟩
          refine ite2 (fun hin => ?_) (fun hin => ?_)
          · have hw : w' = ("leave" : Str) := by simpa using of_decide_eq_true hin
            refine ⟨_, rfl, tail p5 ?_⟩
            have t5 : SqT K H7 p5 [.str "jump", .int ((q3.length : Nat) + 1 : Int)] := SqT.of (s6 _ _ upd_same)
            rw [e5] at t5
            rw [show (Rw.mk w' xs).w = w' from rfl, if_pos hw]
            exact .mk t5 (.n .nil)
          · have hw : ¬ w' = ("leave" : Str) := fun e => hin (by rw [e]; exact decide_eq_true rfl)
            refine ⟨_, rfl, tail p6 ?_⟩
            rw [show (Rw.mk w' xs).w = w' from rfl, if_neg hw]
            exact .mk hsq c
      · rintro H6 ⟨s6, qs, hd, rq⟩
        rw [List.length_map, L3, List.take_length] at rq
        have lq := rq.len
        rw [List.length_map] at lq
        refine ⟨(by show 2 ≤ sizeLine; decide), fun p7 n7 => ⟨(by show 1 ≤ sizeLine; decide), fun l8 n8 => ?_⟩⟩
        have s7 := same_new (o := .tup [.str "jump", .int 0]) n7
        have s8 := same_new (o := .lst [.ref p7]) n8
        refine ⟨D, l8, _, _, rfl, rfl, s8 _ _ (s7 _ _ hd), upd_same, ?_, fun l9 n9 => ?_⟩
        · rw [List.length_map]
          show qs.length + 1 ≤ sizeLine
          exact len5000 (by omega)
        have s9 := same_new (o := .lst (qs.map V.ref ++ [.ref p7])) n9
        have sA := ((s3.trans s5).trans s6).trans (s7.trans s8)
        refine q l9 (qs ++ [p7]) _ (sA.trans s9) (sA.free n9) ?_ ?_
        · rw [upd_same]
          simp
        rw [rowsF]
        exact (rq.mv (KpT.of_same ((s7.trans s8).trans s9))).app (.cons (.mk (SqT.of (s9 _ _ (s8 _ _ upd_same))) (.n (i := 0) .nil)) .nil)
    | joined b =>
      refine ⟨_, rfl, rfl, _, rfl, (if_neg (kw_no (j := 7) (by decide) k10 hzz (by show 9 ≠ 7; decide))).mpr ?_⟩
      refine ⟨_, rfl, rfl, _, rfl, (if_neg (kw_no (j := 8) (by decide) k10 hzz (by show 9 ≠ 8; decide))).mpr ?_⟩
      refine ⟨_, rfl, rfl, _, rfl, (if_pos (kw_yes (j := 9) (by decide) hzz)).mpr ?_⟩
      refine ⟨_, rfl, _, rfl, p, C0, dx0, fs0, _, rfl, h2, fc.cl, fld _ (by decide +kernel), h7, pn, pb, zs, bs, b, rfl, hz, lz, h8, sb, by show lvB b < n; have : lvT (.joined b) = 1 + max (lvB b) (lvB []) := lvt; omega, by show amB b ≤ 500; have : amT (.joined b) = 1 + (amB b + amB []) := amt; omega, cd.of (allT_inner (.joined b)), fun l3 q3 H3 s3 n3 h3 r3 => ?_⟩
      refine ⟨l3, _, rfl, .inl ⟨SqL.of h3, fun p4 n4 => ?_⟩⟩
      have s4 := same_new (o := .tup (q3.map V.ref)) n4
      refine ⟨(by show 2 ≤ sizeLine; decide), fun p5 n5 => ⟨(by show 1 ≤ sizeLine; decide), fun l6 n6 => ?_⟩⟩
      have s5 := same_new (o := .tup [.str "joined", .ref p4]) n5
      have s6 := same_new (o := .lst [.ref p5]) n6
      refine q l6 [p5] _ (((s3.trans s4).trans s5).trans s6) (((s3.trans s4).trans s5).free n6) upd_same ?_
      rw [rowsF]
      exact .cons (.mk (SqT.of (s6 _ _ upd_same)) (.b (SqT.of (s6 _ _ (s5 _ _ upd_same))) (((r3.mv (KpT.of_same s4)).mv (KpT.of_same s5)).mv (KpT.of_same s6)) .nil)) .nil
theorem code_vac : FnOk P w K mg base CX0 (2 * 0 + 3) A.a_coded_rows A.d_coded_rows ["names", "body"] (spCode K A 0) := FnOk.vac fun vs H Q E h => by
  obtain ⟨pn, pb, zs, bs, ts, _, _, _, _, _, h, _⟩ := h
  omega
theorem code_n (T : Txt K mg A) : ∀ n : Nat, FnOk P w K mg base CX0 (2 * n + 3) A.a_coded_rows A.d_coded_rows ["names", "body"] (spCode K A n)
  | 0 => code_vac
  | n + 1 => code_step T n (rows_step T n (code_n T n))
theorem ok_coded_rows (T : Txt K mg A) : FnOk P w K mg base CX0 19 A.a_coded_rows A.d_coded_rows ["names", "body"] (spCode K A 8) := code_n T 8
theorem catTX_ok {H : Hp} {a b : Addr} {xs ys : List V} {Q : VK} (ha : TX H a xs) (hb : TX H b ys) (hz : xs.length + ys.length ≤ sizeLine) (q : ∀ p H', Same H H' → TX H' p (xs ++ ys) → Q (.ref p) H') : rCatX K (.ref a) (.ref b) H Q := by
  refine ⟨a, b, xs, ys, rfl, rfl, ha.sq, hb.sq, hz, fun e => ?_, fun e => ?_, fun p ob hd hp => q p _ (same_new hp) ⟨ob, hd, upd_same⟩⟩
  · refine q b H (Same.refl H) ?_
    rw [e]
    exact hb
  · refine q a H (Same.refl H) ?_
    rw [e, List.append_nil]
    exact ha
def spCoded (K : PySem.W.Frag) (A : Ads) : Sp := fun vs H Q _ => ∃ (pp psl pb : Addr) (zs ss : List Str) (bs : List Addr) (ts : List Tr), vs = [.ref pp, .ref psl, .ref pb] ∧ TX H pp (zs.map V.str) ∧ TX H psl (ss.map V.str) ∧ zs.length + ss.length ≤ 10 ∧ SqT K H pb (bs.map V.ref) ∧ StsT K A H bs ts ∧ lvB ts < 8 ∧ amB ts ≤ 500 ∧ CdOk (zs ++ ss) (allB ts) ∧
  ∀ (l lr ls : Addr) (qs : List Addr) (ns : List Nat) (H' : Hp), Same H H' → H' l = some (.tup [.ref lr, .ref ls]) → SqT K H' lr (qs.map V.ref) → RwsAt K H' qs (codeB (zs ++ ss) ts) → SqT K H' ls (ns.map fun n => V.int (n : Nat)) → Q (.ref l) H'
theorem ite_two {c : Prop} [Decidable c] {a b : Prop} (ha : a) (hb : b) : if c then a else b := by
  split
  · exact ha
  · exact hb
theorem ok_coded (T : Txt K mg A) : FnOk P w K mg base CX0 20 A.a_coded A.d_coded ["parameters", "slots", "body"] (spCoded K A) := by
  have nd := sc_coded.nd
  refine T.f_coded.ok sc_coded (fun vs H Q E h => ?_) (fun cdv A' outer s H vs Q E hr h => ?_)
  · obtain ⟨pp, psl, pb, zs, ss, bs, ts, rfl, _⟩ := h
    rfl
  · obtain ⟨pp, psl, pb, zs, ss, bs, ts, rfl, hp, hs, lz, hb, st, ln, am, cd, q⟩ := h
    refine ⟨_, (pss_cons (ps_set (i := 3) nd rfl (Or.inl rfl) (pe_call (ok_coded_rows T) (hr.mono (by decide)) (by rfl) T.m_coded_rows T.k_coded_rows T.v_coded_rows .nil pass0 (pa_cons (pe_op op_catX (pv 0) (pv 1)) (pa_cons (pv 2) pa_nil))))
      (pss_one (ps_ret (pe_tup (pa_cons (pe_callTy call_tuple_of (by rfl) T.b_tuple (by decide +kernel) (pa_cons (pv 3) pa_nil)) (pa_cons (pe_callTy call_tuple_of (by rfl) T.b_tuple (by decide +kernel) (pa_cons (pe_lc (own := [("at", 4), ("row", 5)]) (g := gTup K 2 (gCons (gName 4) (gCons (gName 5) gNil))) rfl nd (pi_enum (by rfl) T.b_enumerate (pa_cons (pv 3) pa_nil)) (blkOk_by (N := nm_coded) (sc := defScope st_coded) (by decide +kernel)) (fun _ _ _ _ _ => (pg_tup rfl (pgs_cons (pg_name (i := 4) nd rfl (Or.inl rfl)) (pgs_cons (pg_name (i := 5) nd rfl (Or.inl rfl)) pgs_nil)))) (fun _ _ _ _ _ => (pts_one (pt_cmpR (show OpR _ _ (rIn K false) from op_in_seq) (pe_ix (show IxR _ (rIxT K) from ix_tup) (pv 5) pe_int (fun _ _ => rfl)) (pe_gR T.c_ACTS) (by rfl)))) (fun _ _ _ _ _ => (pv 4))) pa_nil)) pa_nil)))))), ?_⟩
    refine ⟨_, rfl, _, rfl, catTX_ok hp hs (by rw [List.length_map, List.length_map]; exact len5000 (by omega)) fun pn H1 s1 hn => ?_⟩
    rw [← List.map_append] at hn
    refine ⟨_, rfl, pn, pb, zs ++ ss, bs, ts, rfl, hn, by rw [List.length_append]; exact lz, (KpT.of_same s1).sq hb, st.mv (KpT.of_same s1), ln, am, cd, fun l2 q2 H2 s2 n2 h2 r2 => ?_⟩
    have L2 := r2.len
    have B2 : (codeB (zs ++ ss) ts).length ≤ 2 * amB ts := codeA_len (zs ++ ss) ts 0
    refine ⟨_, rfl, l2, _, rfl, .inl ⟨SqL.of h2, fun p3 n3 => ?_⟩⟩
    have s3 := same_new (o := .tup (q2.map V.ref)) n3
    refine ⟨_, rfl, l2, _, rfl, SqL.of (s3 _ _ h2), fun D hD => lc_it (walk_enum (K := K) (a := l2) (xs := q2.map V.ref)) (fun i H6 => Same (upd H2 p3 (.tup (q2.map V.ref))) H6 ∧ ∃ ns : List Nat, H6 D = some (.lst (ns.map fun n => V.int (n : Nat))) ∧ ns.length ≤ i) ⟨same_new hD, [], upd_same, Nat.zero_le _⟩ (fun i H6 _ h => SqL.of (h.1 _ _ (s3 _ _ h2))) ?_ ?_⟩
    · rintro i x H6 H7 hi ⟨s6, ns, hd, li⟩ ⟨T', a, b, rfl, nT, rfl, ha, hb2⟩
      cases ha
      have hb2 : (q2.map V.ref)[i]? = some b := hb2
      rw [List.getElem?_map] at hb2
      obtain ⟨p6, hp6, rfl⟩ := Option.map_eq_some_iff.mp hb2
      obtain ⟨r, hr2, rp⟩ := ((r2.mv (KpT.of_same s3)).mv (KpT.of_same s6)).get hp6
      have s7 := same_new (o := .tup [.int (i : Nat), .ref p6]) nT
      rw [List.length_map] at hi
      have hd7 := s7 _ _ hd
      have far : ∀ o, Same (upd H2 p3 (.tup (q2.map V.ref))) (upd (upd H6 T' (.tup [.int (i : Nat), .ref p6])) D o) := fun o b u e => (upd_ne (ne_of_none e hD)).trans (s7 _ _ (s6 _ _ e))
      cases rp.mv (KpT.of_same s7) with
      | mk hsq c =>
        rename_i w' vs xs
        refine ⟨T', _, rfl, SqT.of upd_same, rfl, _, _, rfl, _, _, rfl, rfl, rfl, ?_⟩
        refine ⟨_, rfl, p6, _, _, _, rfl, rfl, hsq, atI_nat (j := 0) rfl, A.u_ACTS, _, rfl, .inr (T.s_ACTS _), rfl, rfl, _, rfl, ?_⟩
        refine ite_two ?_ ?_
        · refine ⟨V.int (i : Nat), rfl, _, hd7, by rw [List.length_map]; exact len5000 (by omega), ?_⟩
          refine ⟨far _, ns ++ [i], ?_, ?_⟩
          · rw [upd_same]
            simp
          · rw [List.length_append, List.length_singleton]
            omega
        · exact ⟨s6.trans s7, ns, hd7, by omega⟩
    · rintro H6 ⟨s6, ns, hd, li⟩
      rw [List.length_map] at li
      refine ⟨D, _, rfl, .inl ⟨SqL.of hd, fun p7 n7 => ⟨(by show 2 ≤ sizeLine; decide), fun l8 n8 => ?_⟩⟩⟩
      have s7 := same_new (o := .tup (ns.map fun n => V.int (n : Nat))) n7
      have s8 := same_new (o := .tup [.ref p3, .ref p7]) n8
      exact q l8 p3 p7 q2 ns _ ((((s1.trans s2).trans s3).trans s6).trans (s7.trans s8)) upd_same (SqT.of (s8 _ _ (s7 _ _ (s6 _ _ upd_same)))) ((((r2.mv (KpT.of_same s3)).mv (KpT.of_same s6)).mv (KpT.of_same s7)).mv (KpT.of_same s8)) (SqT.of (s8 _ _ upd_same))
end
end K07
set_option Elab.async false
set_option linter.all false
set_option maxRecDepth 100000
set_option maxHeartbeats 4000000
namespace K07
open PySem PySem.Spec PyProof.Rows L2 Mo
section
variable {w : World} {K : PySem.W.Frag} {mg : Str → Option Value} {base : Heap} {A : Ads}
theorem cut_to (zs : List Str) : ∀ i : Nat, i ≤ zs.length → cutV (zs.map V.str) none (some (i : Int)) = (zs.take i).map V.str := by
  intro i hi
  unfold cutV
  have e1 : HT.sIx (zs.map V.str).length 0 none = 0 := rfl
  have e2 : HT.sIx (zs.map V.str).length (zs.map V.str).length (some (i : Int)) = i := by
    show (if (i : Int) < 0 then ((i : Int) + ((zs.map V.str).length : Int)).toNat else min (i : Int).toNat (zs.map V.str).length) = _
    rw [if_neg (by omega), List.length_map]
    omega
  rw [e1, e2, Nat.sub_zero, List.drop_zero, List.map_take]
theorem flat_strs (l : List Str) : (l.map V.str).all flatV = true := by
  rw [List.all_map, List.all_eq_true]
  exact fun _ _ => rfl
def spParams : Sp := fun vs H Q _ => ∃ (pp : Addr) (zs : List Str), vs = [.ref pp] ∧ TX H pp (zs.map V.str) ∧ zs.length ≤ 2 ∧ zs.Nodup ∧ (∀ z ∈ zs, NameT z) ∧ ∀ H', Same H H' → Q .non H'
theorem ok_check_parameters (T : Txt K mg A) : FnOk P w K mg base CX0 2 A.a_check_parameters A.d_check_parameters ["value"] spParams := by
  have nd := sc_check_parameters.nd
  refine T.f_check_parameters.ok sc_check_parameters (fun vs H Q E h => ?_) (fun cdv A' outer s H vs Q E hr h => ?_)
  · obtain ⟨pp, zs, rfl, _⟩ := h
    rfl
  · obtain ⟨pp, zs, rfl, hp, lz, nz, az, q⟩ := h
    refine ⟨_, (pss_cons (ps_if (PW.pt (pw_or (pt_not (pt_val (pe_callB call_isi (by rfl) T.b_isinstance (by decide +kernel) (pa_cons (pv 0) (pa_cons (pe_ty "tuple" T.b_tuple) pa_nil))))) (pw_or1 (pt_cmpR op_gt (pe_callB call_len_seq (by rfl) T.b_len (by decide +kernel) (pa_cons (pv 0) pa_nil)) (pe_gI T.c_MAX_PARAMETERS) (nomark _))))) (pss_one ps_never) pss_nil)
      (pss_one (ps_for PassesOwn.never rfl (pi_enumT (by rfl) T.b_enumerate (pa_cons (pv 0) pa_nil)) (pg_tup rfl (pgs_cons (pg_name (i := 1) nd rfl (Or.inl rfl)) (pgs_cons (pg_name (i := 2) nd rfl (Or.inl rfl)) pgs_nil))) (pss_one (ps_if (PW.pt (pw_or (pt_not (pt_val (pe_call (ok_is_name T) (hr.mono (by decide)) (by rfl) T.m_is_name T.k_is_name T.v_is_name .nil pass0 (pa_cons (pv 2) pa_nil)))) (pw_or1 (pt_cmpR op_in_seq (pv 2) (pe_slice sl_tupX (pv 0) po_none (po_some (pv 1))) (by rfl))))) (pss_one ps_never) pss_nil))))), ?_⟩
    refine ⟨_, rfl, _, _, _, _, _, rfl, .ty _, sqt_ty hp.sq, kit7 .tup .tup (by decide), _, rfl, ?_⟩
    refine ⟨_, rfl, pp, _, rfl, .inr hp.sq, _, _, rfl, rfl, _, rfl, (if_neg (by rw [decide_eq_true_eq, List.length_map]; show ¬ ((2 : Int) < _); omega)).mpr ?_⟩
    have cutA := cut_to zs
    refine ⟨_, rfl, pp, _, rfl, hp.sq, for_it walk_enumT (fun i σ H2 => Same H H2 ∧ ∃ v1 v2, σ = [some (.ref pp), v1, v2]) ⟨Same.refl _, _, _, rfl⟩ (fun i σ H2 _ h => (KpT.of_same h.1).sq hp.sq) ?_ ?_⟩
    · rintro i x σ H1 H2 hi ⟨s1, v1, v2, rfl⟩ ⟨t, y, rfl, ht, rfl, hy⟩
      rw [List.getElem?_map] at hy
      obtain ⟨z, hz, rfl⟩ := Option.map_eq_some_iff.mp hy
      have s2 := s1.trans (same_new (o := .tup [.int (i : Nat), .str z]) ht)
      have nz1 := az z (List.mem_of_getElem? hz)
      refine ⟨t, _, rfl, SqT.of upd_same, rfl, _, _, rfl, _, _, rfl, rfl, ?_⟩
      refine ⟨_, rfl, _, .str, rfl, nz1.th _, fun H3 s3 => ⟨_, rfl, ?_⟩⟩
      have e : isNameV (.str z) = true := nz1.1
      rw [e]
      have iz : i ≤ zs.length := Nat.le_of_lt (List.getElem?_eq_some_iff.mp hz).1
      have out : z ∉ zs.take i := by
        intro h
        obtain ⟨j, hj⟩ := List.mem_iff_getElem?.mp h
        rw [List.getElem?_take] at hj
        split at hj
        · rename_i lt
          have := (List.getElem?_inj (List.getElem?_eq_some_iff.mp hz).1 nz).mp (hz.trans hj.symm)
          omega
        · cases hj
      have s4 := s2.trans s3
      refine ⟨_, rfl, _, rfl, _, rfl, _, rfl, slX_ok ((KpT.of_same s4).sq hp.sq) fun p1 H4 s5 h5 => ?_⟩
      refine ⟨p1, _, rfl, .inr h5, rfl, ?_, ?_⟩
      · rw [cutA i iz]
        exact flat_strs _
      · rw [cutA i iz, if_neg (by decide), inV_strs, decide_eq_false out]
        exact ⟨_, rfl, s4.trans s5, _, _, rfl⟩
    · rintro σ H2 ⟨s2, v1, v2, rfl⟩
      exact q H2 s2
/-- what is mentioned, once each, in the sequence of the first mentions -/
def addK (ks : List Str) (k : Str) : List Str := if k ∈ ks then ks else ks ++ [k]
def keysF (us : List Tr) : List Str := us.foldl (fun ks u => (fdT u).ment.foldl addK ks) []
def slotsF (zs : List Str) (us : List Tr) : List Str := (keysF us).filter fun k => !fixedB k && !decide (k ∈ zs)
theorem addK_len (ks : List Str) (k : Str) : (addK ks k).length ≤ ks.length + 1 := by
  unfold addK
  split <;> simp
theorem addsK_len (xs : List Str) : ∀ ks : List Str, (xs.foldl addK ks).length ≤ ks.length + xs.length := by
  induction xs with
  | nil => exact fun ks => Nat.le_refl _
  | cons x xs ih => exact fun ks => Nat.le_trans (ih _) (by have := addK_len ks x; simp only [List.length_cons]; omega)
theorem keys_len : ∀ (us : List Tr) (ks : List Str), (∀ u ∈ us, (fdT u).ment.length ≤ 3) → (us.foldl (fun ks u => (fdT u).ment.foldl addK ks) ks).length ≤ ks.length + 3 * us.length
  | [], ks, _ => Nat.le_refl _
  | u :: us, ks, h => by
    have h1 := keys_len us ((fdT u).ment.foldl addK ks) fun v hv => h v (List.mem_cons_of_mem _ hv)
    have h2 := addsK_len (fdT u).ment ks
    have h3 := h u (List.mem_cons_self ..)
    simp only [List.foldl_cons, List.length_cons]
    omega
def kvO (ks : List Str) : List (Key × V) := ks.map fun k => (Sum.inr k, V.bl true)
theorem kvO_put (ks : List Str) (k : Str) : putK (kvO ks) (.inr k) (.bl true) = kvO (addK ks k) := by
  have e : ((kvO ks).any fun kv => decide (kv.1 = (Sum.inr k : Key))) = decide (k ∈ ks) := by
    unfold kvO
    rw [List.any_map]
    induction ks with
    | nil => rfl
    | cons a l ih =>
      rw [List.any_cons, ih]
      show (decide ((Sum.inr a : Key) = Sum.inr k) || _) = _
      by_cases h : a = k
      · subst h; simp
      · have h2 : ¬ (Sum.inr a : Key) = Sum.inr k := fun z => h (Sum.inr.inj z)
        rw [decide_eq_false h2, Bool.false_or]
        have h3 : ¬ k = a := fun z => h z.symm
        simp [h3]
  unfold putK addK
  rw [e]
  by_cases h : k ∈ ks
  · rw [if_pos (decide_eq_true h), if_pos h]
    unfold kvO
    rw [List.map_map]
    refine List.map_congr_left fun a _ => ?_
    show (if (Sum.inr a : Key) = Sum.inr k then ((Sum.inr a : Key), V.bl true) else (Sum.inr a, V.bl true)) = _
    split <;> rfl
  · rw [if_neg (by rw [decide_eq_true_eq]; exact h), if_neg h]
    unfold kvO
    rw [List.map_append]
    rfl
def spSlots (K : PySem.W.Frag) (A : Ads) : Sp := fun vs H Q _ => ∃ (pp l : Addr) (zs : List Str) (qs : List Addr) (us : List Tr), vs = [.ref pp, .ref l] ∧ TX H pp (zs.map V.str) ∧ H l = some (.lst (qs.map V.ref)) ∧ StsT K A H qs us ∧ (∀ u ∈ us, (fdT u).ment.length ≤ 3) ∧ us.length ≤ 1000 ∧
  ∀ (p : Addr) (H' : Hp), Same H H' → TX H' p ((slotsF zs us).map V.str) → Q (.ref p) H'
theorem ok_slots_of (T : Txt K mg A) : FnOk P w K mg base CX0 1 A.a_slots_of A.d_slots_of ["parameters", "found"] (spSlots K A) := by
  have nd := sc_slots_of.nd
  refine T.f_slots_of.ok sc_slots_of (fun vs H Q E h => ?_) (fun cdv A' outer s H vs Q E hr h => ?_)
  · obtain ⟨pp, l, zs, qs, us, rfl, _⟩ := h
    rfl
  · obtain ⟨pp, l, zs, qs, us, rfl, hp, hl, st, mt, lu, q⟩ := h
    refine ⟨_, (pss_cons (ps_setDc2 (i := 2) (own := [("part", 3), ("name", 4)]) (vs1 := [4]) (g := gName 3) (g1 := gName 4) (tt := tYes) (tt1 := tYes) rfl nd rfl rfl (sw_trueD rfl rfl rfl (by decide +kernel)) (pi_list (pv 1)) (blkOk_by (N := nm_slots_of) (sc := defScope st_slots_of) (by decide +kernel)) (by decide) (fun _ _ _ _ _ => (pg_name (i := 3) nd rfl (Or.inl rfl))) (fun _ _ _ _ _ => pts_nil) (fun _ _ _ _ _ => (show PI _ _ _ (iTup K _) from pi_tup (show PE _ _ (tFld K _ _) from pe_fld (pv 3) rfl))) (fun _ _ _ _ _ => (pg_name (i := 4) nd rfl (Or.inl rfl))) (fun _ _ _ _ _ => pts_nil) (fun _ _ _ _ _ => (pv 4)) (fun _ _ _ _ _ => pe_bl))
      (pss_one (ps_ret (pe_callTy call_tuple_ofX (by rfl) T.b_tuple (by decide +kernel) (pa_cons (pe_lock (pe_lc (own := [("name", 4)]) (g := gName 4) rfl nd (pi_keys (pv 2)) (blkOk_by (N := nm_slots_of) (sc := defScope st_slots_of) (by decide +kernel)) (fun _ _ _ _ _ => (pg_name (i := 4) nd rfl (Or.inl rfl))) (fun _ _ _ _ _ => (pts_one (PW.pt (pw_and (pt_cmpR (show OpR _ _ (rIn K true) from op_notIn_seq) (pv 4) (pe_tup (pa_cons (pe_gS T.c_NOTHING) (pa_cons (pe_gS T.c_YES) pa_nil))) (by rfl)) (pw_and1 (pt_cmpR (show OpR _ _ (rIn K true) from op_notIn_seq) (pv 4) (pv 0) (by rfl))))))) (fun _ _ _ _ _ => (pv 4)))) pa_nil))))), ?_⟩
    have mk : ∀ i t, us[i]? = some t → keysF (us.take (i + 1)) = (fdT t).ment.foldl addK (keysF (us.take i)) := by
      intro i t ht
      unfold keysF
      rw [List.take_add_one, ht, List.foldl_append]
      rfl
    have kl : ∀ i, (keysF (us.take i)).length ≤ 3000 := by
      intro i
      have h1 := keys_len (us.take i) [] fun u hu => mt u (List.mem_of_mem_take hu)
      have h2 : (us.take i).length ≤ us.length := by rw [List.length_take]; exact Nat.min_le_right _ _
      unfold keysF
      simp only [List.length_nil] at h1
      omega
    have ql := st.len
    refine ⟨_, rfl, l, rfl, ⟨_, SqL.of hl⟩, fun D hD => clr_walk (walk_list (K := K) (a := l) (xs := qs.map V.ref)) (fun i H6 => Same H H6 ∧ H6 D = some (.dK (kvO (keysF (us.take i))))) ⟨same_new hD, upd_same⟩ (fun i H6 _ h => SqL.of (h.1 _ _ hl)) ?_ ?_⟩
    · rintro i x H6 H7 hi ⟨s6, hd⟩ ⟨rfl, hx⟩
      rw [List.getElem?_map] at hx
      obtain ⟨r, hr2, rfl⟩ := Option.map_eq_some_iff.mp hx
      obtain ⟨u, hu, stu⟩ := st.get hr2
      have m3 := mt u (List.mem_of_getElem? hu)
      obtain ⟨C, dx, fs, pm, g1, gn, g2, g3, g4, g5, g6⟩ := stu.fd
      obtain ⟨b1, o1, sa, _, _⟩ := stu.at
      obtain ⟨C1, dx1, fs1, ps, pr, pb2, po, k1, k2, k3⟩ := sa
      obtain ⟨rfl, rfl, rfl⟩ : C1 = C ∧ dx1 = dx ∧ fs1 = fs := by
        rw [k2] at g1
        cases g1
        exact ⟨rfl, rfl, rfl⟩
      have fc := T.fam C1 (List.mem_of_getElem? k1)
      refine ⟨rfl, _, rfl, r, C1, dx1, fs1, _, rfl, s6 _ _ g1, fc.cl, fc.na _ (by decide +kernel), g4, pm, rfl, ⟨_, (KpT.of_same s6).sq g5⟩, ?_⟩
      have ki := kl i
      refine clr_walk (walk_tup (K := K) (a := pm) (xs := (fdT u).ment.map V.str)) (fun j H8 => Same H H8 ∧ H8 D = some (.dK (kvO (((fdT u).ment.take j).foldl addK (keysF (us.take i)))))) ⟨s6, hd⟩ (fun j H8 _ h => (KpT.of_same h.1).sq g5) ?_ ?_
      · rintro j y H8 H9 hj ⟨s8, hd8⟩ ⟨rfl, hy⟩
        rw [List.getElem?_map] at hy
        obtain ⟨z, hz, rfl⟩ := Option.map_eq_some_iff.mp hy
        have al := addsK_len ((fdT u).ment.take j) (keysF (us.take i))
        have tl : ((fdT u).ment.take j).length ≤ 3 := by rw [List.length_take]; omega
        refine ⟨rfl, _, rfl, _, .inr z, rfl, hd8, ?_, ?_, ?_⟩
        · unfold kvO
          rw [List.length_map]
          exact lt5000 (by omega)
        · intro b o e
          rw [upd_ne (ne_of_none e hD)]
          exact s8 _ _ e
        · rw [upd_same, kvO_put, List.take_add_one, hz, List.foldl_append]
          rfl
      · rintro H8 ⟨s8, hd8⟩
        refine ⟨s8, ?_⟩
        rw [hd8, mk i u hu, List.length_map, List.take_length]
    · rintro H6 ⟨s6, hd⟩
      rw [List.length_map, ql, List.take_length] at hd
      have fl : ∀ i x, (keysF us)[i]? = some x → ((keysF us).take (i + 1)).filter (fun k => !fixedB k && !decide (k ∈ zs)) = ((keysF us).take i).filter (fun k => !fixedB k && !decide (k ∈ zs)) ++ (if (!fixedB x && !decide (x ∈ zs)) = true then [x] else []) := by
        intro i x h
        rw [List.take_add_one, h, List.filter_append]
        congr 1
        show List.filter _ [x] = _
        cases hb : (!fixedB x && !decide (x ∈ zs)) <;> simp [List.filter, hb]
      have kl2 : (keysF us).length ≤ 3000 := by
        have h := kl us.length
        rw [List.take_length] at h
        exact h
      refine ⟨D, .dK (kvO (keysF us)), hd, trivial, fun od => ?_⟩
      have s7 : Same H (upd H6 D (.frz od (.dK (kvO (keysF us))))) := fun b o e => by
        rw [upd_ne (ne_of_none e hD)]
        exact s6 _ _ e
      refine ⟨_, rfl, D, od, rfl, .inl ⟨_, upd_same, fun D2 hD2 => ?_⟩⟩
      have n2 : D ≠ D2 := by
        intro e
        rw [← e, upd_same] at hD2
        cases hD2
      have hD2H : H D2 = none := by
        cases e : H D2 with
        | none => rfl
        | some o => rw [s7 _ _ e] at hD2; cases hD2
      refine lc_it (walk_keys (d := D) (o := od) (kvs := kvO (keysF us))) (fun i H8 => Same H H8 ∧ H8 D = some (.frz od (.dK (kvO (keysF us)))) ∧ H8 D2 = some (.lst ((((keysF us).take i).filter (fun k => !fixedB k && !decide (k ∈ zs))).map V.str))) ⟨s7.trans (same_new hD2), (upd_ne n2).trans upd_same, upd_same⟩ (fun i H8 _ h => h.2.1) ?_ ?_
      · rintro i x H8 H9 hi ⟨s8, hf8, hd8⟩ ⟨rfl, k, v, hk, rfl⟩
        have hk : ((keysF us).map fun k => ((Sum.inr k : Key), V.bl true))[i]? = some (k, v) := hk
        rw [List.getElem?_map] at hk
        obtain ⟨z, hz, e⟩ := Option.map_eq_some_iff.mp hk
        cases e
        have li : (((keysF us).take i).filter (fun k => !fixedB k && !decide (k ∈ zs))).length ≤ 3000 := by
          have h1 := List.length_filter_le (fun k => !fixedB k && !decide (k ∈ zs)) ((keysF us).take i)
          have h2 : ((keysF us).take i).length ≤ (keysF us).length := by rw [List.length_take]; exact Nat.min_le_right _ _
          omega
        refine ⟨rfl, _, rfl, (by show 2 ≤ sizeLine; decide), fun pt nt => ?_⟩
        have s9 := same_new (o := .tup [.str "nothing", .str "yes"]) nt
        have far : ∀ o, Same H (upd (upd H9 pt (.tup [.str "nothing", .str "yes"])) D2 o) := fun o b u e => (upd_ne (ne_of_none e hD2H)).trans (s9 _ _ (s8 _ _ e))
        refine ⟨pt, _, rfl, .inr (SqT.of upd_same), rfl, rfl, _, rfl, ?_⟩
        have fz := fl i z hz
        refine ite2 (fun h1 => ?_) (fun h1 => ?_)
        · have h1 : (!fixedB z) = true := by
            rw [← inV_fixed]
            exact h1
          refine ⟨_, rfl, _, rfl, pp, _, rfl, .inr ((KpT.of_same (s8.trans s9)).sq hp.sq), rfl, flat_strs _, _, rfl, ?_⟩
          refine ite2 (fun h2 => ?_) (fun h2 => ?_)
          · have h2 : (!decide (z ∈ zs)) = true := by
              rw [← inV_strs]
              exact h2
            rw [h1, h2] at fz
            refine ⟨_, rfl, _, s9 _ _ hd8, ?_, far _, ?_, ?_⟩
            · rw [List.length_map]
              exact lt5000 (by omega)
            · rw [upd_ne n2]
              exact s9 _ _ hf8
            · rw [upd_same, fz, List.map_append]
              rfl
          · have h2 : (!decide (z ∈ zs)) = false := by
              rw [← inV_strs]
              exact Bool.eq_false_iff.mpr h2
            rw [h2, Bool.and_false] at fz
            refine ⟨s8.trans s9, s9 _ _ hf8, ?_⟩
            rw [fz, s9 _ _ hd8]
            simp
        · have h1 : (!fixedB z) = false := by
            rw [← inV_fixed]
            exact Bool.eq_false_iff.mpr h1
          rw [h1, Bool.false_and] at fz
          refine ⟨s8.trans s9, s9 _ _ hf8, ?_⟩
          rw [fz, s9 _ _ hd8]
          simp
      · rintro H8 ⟨s8, hf8, hd8⟩
        have e9 : (kvO (keysF us)).length = (keysF us).length := by unfold kvO; rw [List.length_map]
        rw [e9, List.take_length] at hd8
        refine ⟨hf8, D2, _, rfl, SqL.of ((upd_ne n2.symm).trans hd8), fun p ob hd hp2 => q p _ ?_ ⟨ob, hd, upd_same⟩⟩
        refine Same.trans ?_ (same_new hp2)
        intro b o e
        rw [upd_ne (ne_of_none e hD)]
        exact s8 _ _ e
end
end K07
set_option Elab.async false
set_option linter.all false
set_option maxRecDepth 100000
set_option maxHeartbeats 4000000
namespace K07
open PySem PySem.Spec PyProof.Rows L2 Mo
section
variable {w : World} {K : PySem.W.Frag} {mg : Str → Option Value} {base : Heap} {A : Ads}
def spLimits (K : PySem.W.Frag) : Sp := fun vs H Q _ => ∃ (pc ps pz : Addr) (cs ss : List V) (i j : Nat), vs = [.ref pc, .ref ps, .ref pz] ∧ SqT K H pc cs ∧ SqT K H ps ss ∧ SqT K H pz [.int (i : Nat), .int (j : Nat)] ∧ cs.length ≤ 3 ∧ ss.length ≤ 3 ∧ i ≤ 40 ∧ j ≤ 12 ∧ Q .non H
theorem ok_check_limits (T : Txt K mg A) : FnOk P w K mg base CX0 1 A.a_check_limits A.d_check_limits ["cells", "slots", "sizes"] (spLimits K) := by
  have nd := sc_check_limits.nd
  refine T.f_check_limits.ok sc_check_limits (fun vs H Q E h => ?_) (fun cdv A' outer s H vs Q E hr h => ?_)
  · obtain ⟨pc, ps, pz, cs, ss, i, j, rfl, _⟩ := h
    rfl
  · obtain ⟨pc, ps, pz, cs, ss, i, j, rfl, hc, hs, hz, lc, ls, hi, hj, q⟩ := h
    refine ⟨_, (pss_cons (ps_if (pt_cmpR op_gt (pe_callB call_len_seq (by rfl) T.b_len (by decide +kernel) (pa_cons (pv 0) pa_nil)) (pe_gI T.c_MAX_CELLS) (nomark _)) (pss_one ps_never) pss_nil)
      (pss_cons (ps_if (pt_cmpR op_gt (pe_callB call_len_seq (by rfl) T.b_len (by decide +kernel) (pa_cons (pv 1) pa_nil)) (pe_gI T.c_MAX_SLOTS) (nomark _)) (pss_one ps_never) pss_nil)
      (pss_cons (ps_if (pt_cmpR op_gt (pe_ix ix_tup (pv 2) pe_int (fun _ _ => rfl)) (pe_gI T.c_MAX_STEPS) (nomark _)) (pss_one ps_never) pss_nil)
      (pss_one (ps_if (pt_cmpR op_gt (pe_ix ix_tup (pv 2) pe_int (fun _ _ => rfl)) (pe_gI T.c_MAX_STATEMENTS) (nomark _)) (pss_one ps_never) pss_nil))))), ?_⟩
    refine ⟨_, rfl, pc, _, rfl, .inr hc, _, _, rfl, rfl, _, rfl, (if_neg (by rw [decide_eq_true_eq]; show ¬ ((3 : Int) < _); omega)).mpr ?_⟩
    refine ⟨_, rfl, ps, _, rfl, .inr hs, _, _, rfl, rfl, _, rfl, (if_neg (by rw [decide_eq_true_eq]; show ¬ ((3 : Int) < _); omega)).mpr ?_⟩
    refine ⟨_, rfl, pz, _, _, _, rfl, rfl, hz, atI_nat (j := 1) rfl, _, _, rfl, rfl, _, rfl, (if_neg (by rw [decide_eq_true_eq]; show ¬ ((12 : Int) < _); omega)).mpr ?_⟩
    refine ⟨_, rfl, pz, _, _, _, rfl, rfl, hz, atI_nat (j := 0) rfl, _, _, rfl, rfl, _, rfl, (if_neg (by rw [decide_eq_true_eq]; show ¬ ((40 : Int) < _); omega)).mpr q⟩
/-- the rooms: sorted, once each -/
def RoomsOf (us : List Tr) (rs : List Str) : Prop := rs.Pairwise leS ∧ rs.Nodup ∧ ∀ z, z ∈ rs ↔ ∃ u ∈ us, (fdT u).cell = some z
theorem RoomsOf.one {us : List Tr} {rs ss : List Str} (h : RoomsOf us rs) (g : RoomsOf us ss) : rs = ss :=
  sorted_one ((List.perm_ext_iff_of_nodup h.2.1 g.2.1).mpr fun z => (h.2.2 z).trans (g.2.2 z).symm) h.1 g.1
theorem RoomsOf.few {us : List Tr} {rs cs : List Str} (h : RoomsOf us rs) (c : ∀ u ∈ us, ∀ z, (fdT u).cell = some z → z ∈ cs) : rs.length ≤ cs.length :=
  nodup_len h.2.1 fun z hz => let ⟨u, hu, e⟩ := (h.2.2 z).mp hz; c u hu z e
theorem ment_le (u : Tr) : (fdT u).ment.length ≤ 3 := by
  cases u with
  | one k xs l =>
    show (fdO k xs).ment.length ≤ 3
    unfold fdO
    split <;> simp
  | cond l r b e => show 2 ≤ 3; decide
  | loop b => exact Nat.zero_le _
  | joined b => exact Nat.zero_le _
/-- an instance of Call -/
structure Cl where
  z : Str
  zs : List Str
  ts : List Tr
  rs : List Str
/-- what a call may be -/
structure ClOk (c : Cl) : Prop where
  nm : NameT c.z
  few : c.zs.length ≤ 2
  nd : c.zs.Nodup
  tags : ∀ z ∈ c.zs, NameT z
  lv : lvB c.ts ≤ 5
  am : amB c.ts ≤ 40
  pc : pcB c.ts ≤ 12
  lo : loB c.ts = false
  into : ∀ u ∈ allB c.ts, ∀ z, (fdT u).into = some z → z ∉ c.zs
  rooms : ∃ cs : List Str, cs.length ≤ 3 ∧ ∀ u ∈ allB c.ts, ∀ z, (fdT u).cell = some z → z ∈ cs
  slots : (slotsF c.zs (allB c.ts)).length ≤ 3
  wf : ∀ u ∈ allB c.ts, wf1 u
  rs : RoomsOf (allB c.ts) c.rs
def CallAt (K : PySem.W.Frag) (A : Ads) (H : Hp) (p : Addr) (c : Cl) : Prop := ∃ (dx : Addr) (fs : List (Str × V)) (pp pb pc ps pz : Addr) (bs : List Addr), H p = some (.ins A.c_Call dx fs) ∧ fs ≠ [] ∧ fs.lookup ("name" : Str) = some (.str c.z) ∧ fs.lookup ("parameters" : Str) = some (.ref pp) ∧ SqT K H pp (c.zs.map V.str) ∧
  fs.lookup ("body" : Str) = some (.ref pb) ∧ SqT K H pb (bs.map V.ref) ∧ StsT K A H bs c.ts ∧ fs.lookup ("places" : Str) = some (.ref pc) ∧ SqT K H pc (c.rs.map V.str) ∧ fs.lookup ("slots" : Str) = some (.ref ps) ∧ SqT K H ps ((slotsF c.zs (allB c.ts)).map V.str) ∧
  fs.lookup ("sizes" : Str) = some (.ref pz) ∧ SqT K H pz [.int (amB c.ts : Nat), .int (pcB c.ts : Nat)] ∧ ClOk c
theorem CallAt.mv {K : PySem.W.Frag} {A : Ads} {H H' : Hp} {p : Addr} {c : Cl} (h : CallAt K A H p c) (k : KpT H H') : CallAt K A H' p c := by
  obtain ⟨dx, fs, pp, pb, pc, ps, pz, bs, h1, n, h2, h3, h4, h5, h6, h7, h8, h9, h10, h11, h12, h13, hk⟩ := h
  exact ⟨dx, fs, pp, pb, pc, ps, pz, bs, k.i _ _ _ _ h1 n, n, h2, h3, k.sq h4, h5, k.sq h6, h7.mv k, h8, k.sq h9, h10, k.sq h11, h12, k.sq h13, hk⟩
theorem addK_mem {ks : List Str} {k x : Str} : x ∈ addK ks k ↔ x ∈ ks ∨ x = k := by
  unfold addK
  by_cases h : k ∈ ks
  · rw [if_pos h]
    exact ⟨.inl, fun z => z.elim id fun e => e ▸ h⟩
  · rw [if_neg h, List.mem_append, List.mem_singleton]
theorem addsK_mem {x : Str} : ∀ {xs ks : List Str}, x ∈ xs.foldl addK ks ↔ x ∈ ks ∨ x ∈ xs
  | [], ks => by simp
  | y :: xs, ks => by
    rw [List.foldl_cons, addsK_mem, addK_mem, List.mem_cons]
    exact or_assoc
theorem keysG_mem {x : Str} : ∀ {us : List Tr} {ks : List Str}, x ∈ us.foldl (fun ks u => (fdT u).ment.foldl addK ks) ks ↔ x ∈ ks ∨ ∃ u ∈ us, x ∈ (fdT u).ment
  | [], ks => by simp
  | u :: us, ks => by
    rw [List.foldl_cons, keysG_mem, addsK_mem]
    simp only [List.mem_cons, exists_eq_or_imp]
    exact or_assoc
theorem keys_mem {x : Str} {us : List Tr} : x ∈ keysF us ↔ ∃ u ∈ us, x ∈ (fdT u).ment := by
  unfold keysF
  rw [keysG_mem]
  simp
theorem slots_mem {x : Str} {zs : List Str} {us : List Tr} : x ∈ slotsF zs us ↔ (∃ u ∈ us, x ∈ (fdT u).ment) ∧ fixedB x = false ∧ x ∉ zs := by
  unfold slotsF
  rw [List.mem_filter, keys_mem]
  simp
theorem cdOk_slots {zs : List Str} {us : List Tr} (wf : ∀ u ∈ us, wf1 u) : CdOk (zs ++ slotsF zs us) us := by
  intro u hu
  refine ⟨fun z hz => ?_, wf u hu⟩
  by_cases f : fixedB z = true
  · rw [← inV_fixed, show [V.str "nothing", V.str "yes"] = (["nothing", "yes"] : List Str).map V.str from rfl, inV_strs] at f
    have f := of_decide_eq_true f
    rcases List.mem_cons.mp f with e | f
    · exact .inl e
    · exact .inr (.inl (List.mem_singleton.mp f))
  · by_cases m : z ∈ zs
    · exact .inr (.inr (List.mem_append_left _ m))
    · exact .inr (.inr (List.mem_append_right _ (slots_mem.mpr ⟨⟨u, hu, hz⟩, Bool.eq_false_iff.mpr f, m⟩)))
theorem inV_oV (o : Option Str) (zs : List Str) (h : ∀ z, o = some z → z ∉ zs) : inV (oV o) (zs.map V.str) = false := by
  cases o with
  | some z =>
    show inV (.str z) _ = false
    rw [inV_strs]
    exact decide_eq_false (h z rfl)
  | none =>
    clear h
    induction zs with
    | nil => rfl
    | cons z zs ih => exact ih
theorem oV_flat (o : Option Str) : flatV (oV o) = true := by cases o <;> rfl
theorem abs_heap {P : Hp → Prop} {U : Hp} (R : Hp → Prop) (r : R U) (h : ∀ U', R U' → P U') : P U := h U r
theorem scan1000 : 1000 < scanBound := by decide
def f3C (c : Cl) (pp pb : Addr) : List (Str × V) := [("name", .str c.z), ("parameters", .ref pp), ("body", .ref pb)]
def f4C (c : Cl) (pp pb pl : Addr) : List (Str × V) := f3C c pp pb ++ [(("places" : Str), V.ref pl)]
def f5C (c : Cl) (pp pb pl ps : Addr) : List (Str × V) := f4C c pp pb pl ++ [(("slots" : Str), V.ref ps)]
def f6C (c : Cl) (pp pb pl ps pz : Addr) : List (Str × V) := f5C c pp pb pl ps ++ [(("sizes" : Str), V.ref pz)]
def spCall (K : PySem.W.Frag) (A : Ads) : Sp := fun vs H Q _ => ∃ (a dx pp pb : Addr) (bs : List Addr) (c : Cl), vs = [.ref a, .str c.z, .ref pp, .ref pb] ∧ H a = some (.ins A.c_Call dx []) ∧ TX H pp (c.zs.map V.str) ∧ SqT K H pb (bs.map V.ref) ∧ StsT K A H bs c.ts ∧ ClOk c ∧
  ∀ H', CallAt K A H' a c → KeepBut a H H' → Q .non H'
theorem ok_Call___init__ (T : Txt K mg A) : FnOk P w K mg base CX0 21 A.a_Call___init__ A.d_Call___init__ ["self", "name", "parameters", "body"] (spCall K A) := by
  have nd := sc_Call___init__.nd
  refine T.f_Call___init__.ok sc_Call___init__ (fun vs H Q E h => ?_) (fun cdv A' outer s H vs Q E hr h => ?_)
  · obtain ⟨a, dx, pp, pb, bs, c, rfl, _⟩ := h
    rfl
  · obtain ⟨a, dx, pp, pb, bs, c, rfl, ha, hp, hb, st, ok, k⟩ := h
    refine ⟨_, (pss_cons (ps_expr (pe_call (ok_check_name T) (hr.mono (by decide)) (by rfl) T.m_check_name T.k_check_name T.v_check_name .nil pass0 (pa_cons (pv 1) pa_nil)))
      (pss_cons (ps_expr (pe_call (ok_check_parameters T) (hr.mono (by decide)) (by rfl) T.m_check_parameters T.k_check_parameters T.v_check_parameters .nil pass0 (pa_cons (pv 2) pa_nil)))
      (pss_cons (ps_expr (pe_call (ok_check_body T) (hr.mono (by decide)) (by rfl) T.m_check_body T.k_check_body T.v_check_body .nil pass0 (pa_cons (pv 3) pa_nil)))
      (pss_cons (ps_set (i := 4) nd rfl (Or.inl rfl) (pe_call (ok_all_in T) (hr.mono (by decide)) (by rfl) T.m_all_in T.k_all_in T.v_all_in .nil pass0 (pa_cons (pv 3) pa_nil)))
      (pss_cons (ps_for PassesOwn.never rfl (pi_list (pv 4)) (pg_name (i := 5) nd rfl (Or.inl rfl)) (pss_one (ps_if (pt_cmpR op_in_seq (pe_fld (pv 5) rfl) (pv 2) (by rfl)) (pss_one ps_never) pss_nil)))
      (pss_cons (ps_if (pt_val (pe_call (ok_leaves_outside T) (hr.mono (by decide)) (by rfl) T.m_leaves_outside T.k_leaves_outside T.v_leaves_outside .nil pass0 (pa_cons (pv 3) pa_nil))) (pss_one ps_never) pss_nil)
      (pss_cons (ps_fld (pv 0) (pv 1) rfl)
      (pss_cons (ps_fld (pv 0) (pv 2) rfl)
      (pss_cons (ps_fld (pv 0) (pv 3) rfl)
      (pss_cons (ps_fld (pv 0) (pe_callTy call_tuple_of (by rfl) T.b_tuple (by decide +kernel) (pa_cons (pe_callB (cr_sortedT rfl (Nat.lt_of_le_of_lt (Nat.add_le_add_left (by decide : 3 ≤ 64) _) hr.units)) (by rfl) T.b_sorted (by decide +kernel) (pa_cons (pe_scT (own := [("part", 5)]) (g := gName 5) rfl nd (pi_list (pv 4)) (blkOk_by (N := nm_Call___init__) (sc := defScope st_Call___init__) (by decide +kernel)) (fun _ _ _ _ _ => (pg_name (i := 5) nd rfl (Or.inl rfl))) (fun _ _ _ _ _ => (pts_one (pt_cmpR op_notN (show PE _ _ (tFld K _ _) from pe_fld (pv 5) rfl) pe_non (nomark _))))  (fun _ _ _ _ _ => (show PE _ _ (tFld K _ _) from pe_fld (pv 5) rfl))) pa_nil)) pa_nil)) rfl)
      (pss_cons (ps_fld (pv 0) (pe_call (ok_slots_of T) (hr.mono (by decide)) (by rfl) T.m_slots_of T.k_slots_of T.v_slots_of .nil pass0 (pa_cons (pv 2) (pa_cons (pv 4) pa_nil))) rfl)
      (pss_cons (ps_fld (pv 0) (pe_tup (pa_cons (pe_callB call_len_seq (by rfl) T.b_len (by decide +kernel) (pa_cons (pv 4) pa_nil)) (pa_cons (pe_call (ok_steps_in T) (hr.mono (by decide)) (by rfl) T.m_steps_in T.k_steps_in T.v_steps_in .nil pass0 (pa_cons (pv 3) pa_nil)) pa_nil))) rfl)
      (pss_cons (ps_expr (pe_call (ok_check_limits T) (hr.mono (by decide)) (by rfl) T.m_check_limits T.k_check_limits T.v_check_limits .nil pass0 (pa_cons (pe_fld (pv 0) rfl) (pa_cons (pe_fld (pv 0) rfl) (pa_cons (pe_fld (pv 0) rfl) pa_nil)))))
      (pss_one (ps_fld (pv 0) (pe_call (ok_coded T) (hr.mono (by decide)) (by rfl) T.m_coded T.k_coded T.v_coded .nil pass0 (pa_cons (pv 2) (pa_cons (pe_fld (pv 0) rfl) (pa_cons (pv 3) pa_nil)))) rfl))))))))))))))), ?_⟩
    refine ⟨_, rfl, .str c.z, .str, rfl, ok.nm.th H, ok.nm.1, fun H1 s1 => ?_⟩
    refine ⟨_, rfl, pp, c.zs, rfl, TXkp hp (KpT.of_same s1), ok.few, ok.nd, ok.tags, fun H2 s2 => ?_⟩
    have q2 := s1.trans s2
    refine ⟨_, rfl, pb, bs, c.ts, rfl, (KpT.of_same q2).sq hb, st.mv (KpT.of_same q2), fun _ _ => trivial, fun H3 s3 => ?_⟩
    have q3 := q2.trans s3
    have lv5 := ok.lv
    have am4 := ok.am
    refine ⟨_, rfl, pb, bs, c.ts, rfl, (KpT.of_same q3).sq hb, st.mv (KpT.of_same q3), by omega, by omega, fun lf qs H4 s4 nl hl sq => ?_⟩
    have q4 := q3.trans s4
    have lq := sq.len
    have la := allB_len c.ts
    have h4 : SqT (cxOf CX0 P w K mg base nm_Call___init__ (Str.ofString "Call.__init__") (defScope st_Call___init__) A.a_Call___init__ cdv A' outer s H E).nox.K H4 pp (c.zs.map V.str) := (KpT.of_same q4).sq hp.sq
    refine ⟨_, rfl, lf, rfl, ⟨_, SqL.of hl⟩, for_it (walk_list (K := K) (a := lf) (xs := qs.map V.ref)) (fun i σ H5 => Same H4 H5 ∧ ∃ v : Option V, σ = [some (.ref a), some (.str c.z), some (.ref pp), some (.ref pb), some (.ref lf), v]) ⟨Same.refl _, none, rfl⟩ (fun i σ H5 _ h => SqL.of (h.1 _ _ hl)) ?_ ?_⟩
    · rintro i x σ H5 H6 hi ⟨s5, v, rfl⟩ ⟨rfl, hx⟩
      rw [List.getElem?_map] at hx
      obtain ⟨r, hr2, rfl⟩ := Option.map_eq_some_iff.mp hx
      obtain ⟨u, hu, stu⟩ := (sq.mv (KpT.of_same s5)).get hr2
      obtain ⟨C, dx1, fs, pm, g1, gn, g2, g3, g4, g5, g6⟩ := stu.fd
      obtain ⟨b1, o1, sa, _, _⟩ := stu.at
      obtain ⟨C1, dx2, fs1, ps, pr, pb2, po, k1, k2, k3⟩ := sa
      obtain ⟨rfl, rfl, rfl⟩ : C1 = C ∧ dx2 = dx1 ∧ fs1 = fs := by
        rw [k2] at g1
        cases g1
        exact ⟨rfl, rfl, rfl⟩
      have fc := T.fam C1 (List.mem_of_getElem? k1)
      refine ⟨_, rfl, r, C1, _, fs1, _, rfl, g1, fc.cl, fc.na _ (by decide +kernel), g3, _, rfl, pp, _, rfl, .inr ((KpT.of_same s5).sq h4), oV_flat _, flat_strs _, _, rfl, ?_⟩
      rw [if_neg (by decide), inV_oV _ _ (ok.into u (List.mem_of_getElem? hu))]
      exact ⟨s5, _, rfl⟩
    · rintro σ H5 ⟨s5, v, rfl⟩
      have q5 := q4.trans s5
      refine ⟨_, rfl, pb, bs, c.ts, rfl, (KpT.of_same q5).sq hb, st.mv (KpT.of_same q5), by omega, by omega, fun B s6 => ⟨_, rfl, ?_⟩⟩
      rw [ok.lo]
      have ba : B a = some (.ins A.c_Call dx []) := s6 _ _ (s5 _ _ (q4 _ _ ha))
      refine ⟨_, rfl, _, rfl, a, A.c_Call, dx, _, rfl, ba, T.cl_Call, T.na_Call_name, (by show 0 < 1000; decide), ?_⟩
      refine ⟨_, rfl, _, rfl, a, A.c_Call, dx, _, rfl, upd_same, T.cl_Call, T.na_Call_parameters, (by show 1 < 1000; decide), ?_⟩
      refine ⟨_, rfl, _, rfl, a, A.c_Call, dx, _, rfl, upd_same, T.cl_Call, T.na_Call_body, (by show 2 < 1000; decide), ?_⟩
      refine abs_heap (fun U => KeepBut a B U ∧ U a = some (.ins A.c_Call dx (f3C c pp pb))) ⟨fun b o n e => (upd_ne n).trans ((upd_ne n).trans ((upd_ne n).trans e)), upd_same⟩ ?_
      rintro U3 ⟨kb3, fl3⟩
      have hlB : B lf = some (.lst (qs.map V.ref)) := s6 _ _ (s5 _ _ hl)
      have nla : lf ≠ a := ne_of hlB ba (by intro z; cases z)
      have sqB := (sq.mv (KpT.of_same s5)).mv (KpT.of_same s6)
      have hl3 : ∀ U, KeepBut a B U → U lf = some (.lst (qs.map V.ref)) := fun U k => k _ _ nla hlB
      refine ⟨_, rfl, lf, rfl, ⟨_, SqL.of (hl3 _ kb3)⟩, fun D hD => clr_walk (walk_list (K := K) (a := lf) (xs := qs.map V.ref)) (fun i H8 => KeepBut a B H8 ∧ H8 a = some (.ins A.c_Call dx (f3C c pp pb)) ∧ ∃ l : List Str, H8 D = some (SetT P w D l) ∧ l.Nodup ∧ l.length ≤ i ∧ ∀ z, z ∈ l ↔ ∃ u ∈ (allB c.ts).take i, (fdT u).cell = some z)
        ⟨?_, ?_, [], upd_same, List.nodup_nil, Nat.le_refl _, fun z => by simp⟩ (fun i H8 _ h => SqL.of (hl3 _ h.1)) ?_ ?_⟩
      · exact kb3.trans (KeepBut.of_same (same_new hD))
      · exact same_new hD _ _ fl3
      · rintro i x H8 H9 hi ⟨kb8, fl8, l, hd8, nd8, ln8, mem8⟩ ⟨rfl, hx⟩
        rw [List.getElem?_map] at hx
        obtain ⟨r, hr2, rfl⟩ := Option.map_eq_some_iff.mp hx
        obtain ⟨u, hu, stu⟩ := (sqB.mv (KpT.new ba kb8)).get hr2
        obtain ⟨C, dx1, fs, pm, g1, gn, g2, g3, g4, g5, g6⟩ := stu.fd
        obtain ⟨b1, o1, sa, _, _⟩ := stu.at
        obtain ⟨C1, dx2, fs1, ps, pr, pb2, po, k1, k2, k3⟩ := sa
        obtain ⟨rfl, rfl, rfl⟩ : C1 = C ∧ dx2 = dx1 ∧ fs1 = fs := by
          rw [k2] at g1
          cases g1
          exact ⟨rfl, rfl, rfl⟩
        have fc := T.fam C1 (List.mem_of_getElem? k1)
        have hDB : B D = none := by
          cases e : B D with
          | none => rfl
          | some o =>
            have nDa : D ≠ a := fun z => by rw [z, fl3] at hD; cases hD
            rw [kb3 D o nDa e] at hD
            cases hD
        have nDa : D ≠ a := fun z => by rw [z, fl3] at hD; cases hD
        have il := (List.getElem?_eq_some_iff.mp hu).1
        rcases hc : (fdT u).cell with _ | z
        · rw [hc] at g2
          refine ⟨rfl, _, rfl, r, C1, _, fs1, _, rfl, g1, fc.cl, fc.na _ (by decide +kernel), g2, rfl, _, rfl, ?_⟩
          refine ite2 (fun h => absurd h (by decide)) (fun h => ?_)
          refine ⟨kb8, fl8, l, hd8, nd8, by omega, fun y => (mem8 y).trans ?_⟩
          rw [List.take_add_one, hu]
          constructor
          · rintro ⟨v, hv, e⟩
            exact ⟨v, List.mem_append_left _ hv, e⟩
          · rintro ⟨v, hv, e⟩
            rcases List.mem_append.mp hv with hv | hv
            · exact ⟨v, hv, e⟩
            · have hv : v ∈ [u] := hv
              rw [List.mem_singleton.mp hv, hc] at e
              cases e
        · rw [hc] at g2
          refine ⟨rfl, _, rfl, r, C1, _, fs1, _, rfl, g1, fc.cl, fc.na _ (by decide +kernel), g2, rfl, _, rfl, ?_⟩
          refine ite2 (fun _ => ?_) (fun h => absurd (show (!decide (V.str z = V.non)) = true by rw [decide_eq_false (fun z => nomatch z)]; rfl) h)
          refine ⟨_, rfl, r, C1, _, fs1, _, rfl, g1, fc.cl, fc.na _ (by decide +kernel), g2, z, l, rfl, hd8, (Nat.lt_trans (by omega) scan1000), fun b o n e => (upd_ne (ne_of_none e hDB)).trans (kb8 b o n e), (upd_ne nDa.symm).trans fl8, put1 z l, upd_same, put1_nd nd8, by have := put1_len z l; omega, fun y => mem_put1.trans ?_⟩
          rw [List.take_add_one, hu]
          constructor
          · rintro (rfl | h)
            · exact ⟨u, List.mem_append_right _ (List.mem_singleton.mpr rfl), hc⟩
            · obtain ⟨v, hv, e⟩ := (mem8 y).mp h
              exact ⟨v, List.mem_append_left _ hv, e⟩
          · rintro ⟨v, hv, e⟩
            rcases List.mem_append.mp hv with hv | hv
            · exact .inr ((mem8 y).mpr ⟨v, hv, e⟩)
            · have hv : v ∈ [u] := hv
              rw [List.mem_singleton.mp hv, hc] at e
              exact .inl (Option.some.inj e).symm
      · rintro H8 ⟨kb8, fl8, l, hd8, nd8, ln8, mem8⟩
        rw [List.length_map, lq, List.take_length] at mem8
        refine ⟨D, l, rfl, hd8, fun ys p pm sw np => ?_⟩
        have er : c.rs = ys := ok.rs.one ⟨sw, pm.nodup_iff.mpr nd8, fun z => pm.mem_iff.trans (mem8 z)⟩
        have sp := same_new (o := .lst (ys.map V.str)) np
        refine ⟨p, _, rfl, .inl ⟨SqL.of upd_same, fun pl npl => ?_⟩⟩
        have sl := same_new (o := .tup (ys.map V.str)) npl
        have flp := sl _ _ (sp _ _ fl8)
        have nlp : pl ≠ a := (ne_of_none (sp _ _ fl8) npl).symm
        refine ⟨_, rfl, a, A.c_Call, dx, _, rfl, flp, T.cl_Call, T.na_Call_places, (by show 3 < 1000; decide), ?_⟩
        refine abs_heap (fun U => KeepBut a B U ∧ U a = some (.ins A.c_Call dx (f4C c pp pb pl)) ∧ U pl = some (.tup (c.rs.map V.str))) ⟨fun b o n e => (upd_ne n).trans (sl _ _ (sp _ _ (kb8 b o n e))), upd_same, by rw [upd_ne nlp, upd_same, er]⟩ ?_
        rintro U4 ⟨kb4, fl4, hpl⟩
        have kp4 := KpT.new ba kb4
        refine ⟨_, rfl, _, rfl, pp, lf, c.zs, qs, allB c.ts, rfl, TXkp (TXkp hp (KpT.of_same (q5.trans s6))) kp4, hl3 _ kb4, sqB.mv kp4, fun u _ => ment_le u, by omega, fun ps H9 s9 tx => ?_⟩
        refine ⟨_, rfl, a, A.c_Call, dx, _, rfl, s9 _ _ fl4, T.cl_Call, T.na_Call_slots, (by show 4 < 1000; decide), ?_⟩
        have nps : ps ≠ a := by
          obtain ⟨ob, _, e⟩ := tx
          exact ne_of e (s9 _ _ fl4) (by intro z; cases z)
        have npl4 : pl ≠ a := ne_of hpl fl4 (by intro z; cases z)
        refine abs_heap (fun U => KeepBut a B U ∧ U a = some (.ins A.c_Call dx (f5C c pp pb pl ps)) ∧ U pl = some (.tup (c.rs.map V.str)) ∧ TX U ps ((slotsF c.zs (allB c.ts)).map V.str)) ⟨fun b o n e => (upd_ne n).trans (s9 _ _ (kb4 b o n e)), upd_same, (upd_ne npl4).trans (s9 _ _ hpl), ?_⟩ ?_
        · obtain ⟨ob, d, e⟩ := tx
          exact ⟨ob, d, (upd_ne nps).trans e⟩
        rintro U5 ⟨kb5, fl5, hpl5, tx5⟩
        have kp5 := KpT.new ba kb5
        refine ⟨_, rfl, lf, _, rfl, .inl (SqL.of (hl3 _ kb5)), _, rfl, pb, bs, c.ts, rfl, kp5.sq ((KpT.of_same (q5.trans s6)).sq hb), (st.mv (KpT.of_same (q5.trans s6))).mv kp5, by omega, by omega, fun H6 s6' => ⟨(by show 2 ≤ sizeLine; decide), fun pz npz => ?_⟩⟩
        have sz := same_new (o := .tup [.int ((qs.map V.ref).length : Nat), .int (pcB c.ts : Nat)]) npz
        have am_ : (qs.map V.ref).length = amB c.ts := by rw [List.length_map, lq, la]
        rw [am_] at sz ⊢
        have flz := sz _ _ (s6' _ _ fl5)
        have npa : pz ≠ a := (ne_of_none (s6' _ _ fl5) npz).symm
        have npl5 : pl ≠ a := ne_of hpl5 fl5 (by intro z; cases z)
        refine ⟨_, rfl, a, A.c_Call, dx, _, rfl, flz, T.cl_Call, T.na_Call_sizes, (by show 5 < 1000; decide), ?_⟩
        refine abs_heap (fun U => KeepBut a B U ∧ U a = some (.ins A.c_Call dx (f6C c pp pb pl ps pz)) ∧ U pl = some (.tup (c.rs.map V.str)) ∧ TX U ps ((slotsF c.zs (allB c.ts)).map V.str) ∧ U pz = some (.tup [.int (amB c.ts : Nat), .int (pcB c.ts : Nat)])) ⟨fun b o n e => (upd_ne n).trans (sz _ _ (s6' _ _ (kb5 b o n e))), upd_same, (upd_ne npl5).trans (sz _ _ (s6' _ _ hpl5)), ?_, (upd_ne npa).trans upd_same⟩ ?_
        · obtain ⟨ob, d, e⟩ := tx5
          exact ⟨ob, d, (upd_ne nps).trans (sz _ _ (s6' _ _ e))⟩
        rintro U6 ⟨kb6, fl6, hpl6, tx6, hpz6⟩
        have kp6 := KpT.new ba kb6
        have ob : StsT K A B bs c.ts := st.mv (KpT.of_same (q5.trans s6))
        have rl : c.rs.length ≤ 3 := by
          obtain ⟨cs, l3, h⟩ := ok.rooms
          exact Nat.le_trans (ok.rs.few h) l3
        refine ⟨_, rfl, a, A.c_Call, dx, _, _, rfl, fl6, T.cl_Call, T.na_Call_places, rfl, _, rfl, a, A.c_Call, dx, _, _, rfl, fl6, T.cl_Call, T.na_Call_slots, rfl, _, rfl, a, A.c_Call, dx, _, _, rfl, fl6, T.cl_Call, T.na_Call_sizes, rfl, ?_⟩
        refine ⟨pl, ps, pz, _, _, amB c.ts, pcB c.ts, rfl, SqT.of hpl6, tx6.sq, SqT.of hpz6, by rw [List.length_map]; exact rl, by rw [List.length_map]; exact ok.slots, ok.am, ok.pc, ?_⟩
        refine ⟨_, rfl, _, rfl, a, A.c_Call, dx, _, _, rfl, fl6, T.cl_Call, T.na_Call_slots, rfl, _, rfl, pp, ps, pb, c.zs, _, bs, c.ts, rfl, TXkp (TXkp hp (KpT.of_same (q5.trans s6))) kp6, tx6, (by have h1 := ok.few; have h2 := ok.slots; omega), kp6.sq ((KpT.of_same (q5.trans s6)).sq hb), ob.mv kp6, by omega, by omega, cdOk_slots ok.wf, fun lc lr ls qs7 ns H7 s7 h7 h8 h9 h10 => ?_⟩
        refine ⟨_, rfl, a, A.c_Call, dx, _, rfl, s7 _ _ fl6, T.cl_Call, T.na_Call_code, (by show 6 < 1000; decide), ?_⟩
        have kbE : KeepBut a B (upd H7 a (.ins A.c_Call dx (f6C c pp pb pl ps pz ++ [(("code" : Str), V.ref lc)]))) := fun b o n e => (upd_ne n).trans (s7 _ _ (kb6 b o n e))
        have kpE := KpT.new ba kbE
        have n1 : pl ≠ a := ne_of hpl6 fl6 (by intro z; cases z)
        have n2 : pz ≠ a := ne_of hpz6 fl6 (by intro z; cases z)
        refine k _ ⟨dx, _, pp, pb, pl, ps, pz, bs, upd_same, (fun z => nomatch z), rfl, rfl, kpE.sq ((KpT.of_same (q5.trans s6)).sq hp.sq), rfl, kpE.sq ((KpT.of_same (q5.trans s6)).sq hb), ob.mv kpE, rfl, SqT.of ((upd_ne n1).trans (s7 _ _ hpl6)), rfl, ?_, rfl, SqT.of ((upd_ne n2).trans (s7 _ _ hpz6)), ok⟩ ?_
        · obtain ⟨ob2, d, e⟩ := tx6
          exact TX.sq ⟨ob2, d, (upd_ne nps).trans (s7 _ _ e)⟩
        · exact fun b o n e => kbE b o n ((q5.trans s6) _ _ e)
end
end K07
set_option Elab.async false
set_option linter.all false
set_option maxRecDepth 100000
set_option maxHeartbeats 4000000
namespace K07
open PySem PySem.Spec PyProof.Rows L2 Mo
def headC (c : Cl) : Str := Txt.join " " ("call" :: c.z :: c.zs)
def linesC (c : Cl) : List Str := headC c :: ind (rowsB c.ts)
def LineOk (r : Str) : Prop := r.length ≤ 212 ∧ AlnT r
theorem headC_ok {c : Cl} (ok : ClOk c) : LineOk (headC c) := by
  have l1 : (" " : Str).length = 1 := rfl
  have l2 : ("call" : Str).length = 4 := rfl
  have z8 := ok.nm.2.2
  have az := ok.nm.2.1
  have as : AlnT (" " : Str) := aln_by (by decide +kernel)
  have ac : AlnT ("call" : Str) := aln_by (by decide +kernel)
  unfold headC
  match e : c.zs, ok.few with
  | [], _ =>
    rw [join2]
    exact ⟨by simp only [app_length, l1, l2]; omega, aln_app (aln_app ac as) az⟩
  | [x], _ =>
    have hx := ok.tags x (by rw [e]; exact List.mem_singleton.mpr rfl)
    have := hx.2.2
    rw [join3]
    exact ⟨by simp only [app_length, l1, l2]; omega, aln_app (aln_app ac as) (aln_app (aln_app az as) hx.2.1)⟩
  | [x, y], _ =>
    have hx := ok.tags x (by rw [e]; exact List.mem_cons_self ..)
    have hy := ok.tags y (by rw [e]; exact List.mem_cons_of_mem _ (List.mem_singleton.mpr rfl))
    have := hx.2.2
    have := hy.2.2
    rw [join4]
    exact ⟨by simp only [app_length, l1, l2]; omega, aln_app (aln_app ac as) (aln_app (aln_app az as) (aln_app (aln_app hx.2.1 as) hy.2.1))⟩
theorem linesC_ok {K : PySem.W.Frag} {A : Ads} {H : Hp} {bs : List Addr} {c : Cl} (ok : ClOk c) (st : StsT K A H bs c.ts) : (∀ r ∈ linesC c, LineOk r) ∧ (linesC c).length ≤ 81 := by
  obtain ⟨_, h2, h3, h4, _⟩ := st.sums
  have fr := flatR_row st.parts
  have fl := flatR_len st.parts
  rw [h4] at fr fl
  rw [h2] at fl
  rw [h3] at fr
  have lv := ok.lv
  have am := ok.am
  constructor
  · intro r hr
    rcases List.mem_cons.mp hr with rfl | hr
    · exact headC_ok ok
    · obtain ⟨x, hx, rfl⟩ := List.mem_map.mp hr
      obtain ⟨a1, a2⟩ := fr x hx
      have l2 : ("  " : Str).length = 2 := rfl
      exact ⟨by rw [app_length, l2]; omega, aln_app (aln_by (by decide +kernel)) a2⟩
  · unfold linesC ind
    rw [List.length_cons, List.length_map]
    omega
section
variable {w : World} {K : PySem.W.Frag} {mg : Str → Option Value} {base : Heap} {A : Ads}
def spCells (K : PySem.W.Frag) (A : Ads) : Sp := fun vs H Q _ => ∃ (p : Addr) (c : Cl), vs = [.ref p] ∧ CallAt K A H p c ∧ ∀ pc, SqT K H pc (c.rs.map V.str) → Q (.ref pc) H
theorem ok_Call_cells (T : Txt K mg A) : FnOk P w K mg base CX0 1 A.a_Call_cells A.d_Call_cells ["self"] (spCells K A) := by
  have nd := sc_Call_cells.nd
  refine T.f_Call_cells.ok sc_Call_cells (fun vs H Q E h => ?_) (fun cdv A' outer s H vs Q E hr h => ?_)
  · obtain ⟨p, c, rfl, _⟩ := h
    rfl
  · obtain ⟨p, c, rfl, ⟨dx, fs, pp, pb, pc, ps, pz, bs, h1, n, h2, h3, h4, h5, h6, h7, h8, h9, h10, h11, h12, h13, ok⟩, q⟩ := h
    refine ⟨_, (pss_one (ps_ret (pe_fld (pv 0) rfl))), ?_⟩
    exact ⟨_, rfl, p, A.c_Call, dx, fs, _, rfl, h1, T.cl_Call, T.na_Call_places, h8, q pc h9⟩
def spStepsP (K : PySem.W.Frag) (A : Ads) : Sp := fun vs H Q _ => ∃ (p : Addr) (c : Cl), vs = [.ref p] ∧ CallAt K A H p c ∧ Q (.int (pcB c.ts : Nat)) H
theorem ok_Call_steps (T : Txt K mg A) : FnOk P w K mg base CX0 1 A.a_Call_steps A.d_Call_steps ["self"] (spStepsP K A) := by
  have nd := sc_Call_steps.nd
  refine T.f_Call_steps.ok sc_Call_steps (fun vs H Q E h => ?_) (fun cdv A' outer s H vs Q E hr h => ?_)
  · obtain ⟨p, c, rfl, _⟩ := h
    rfl
  · obtain ⟨p, c, rfl, ⟨dx, fs, pp, pb, pc, ps, pz, bs, h1, n, h2, h3, h4, h5, h6, h7, h8, h9, h10, h11, h12, h13, ok⟩, q⟩ := h
    refine ⟨_, (pss_one (ps_ret (pe_ix ix_tup (pe_fld (pv 0) rfl) pe_int (fun _ _ => rfl)))), ?_⟩
    exact ⟨_, rfl, p, A.c_Call, dx, fs, _, rfl, h1, T.cl_Call, T.na_Call_sizes, h12, pz, _, _, _, rfl, rfl, h13, atI_nat (j := 1) rfl, q⟩
def spLinesC (K : PySem.W.Frag) (A : Ads) : Sp := fun vs H Q _ => ∃ (p : Addr) (c : Cl), vs = [.ref p] ∧ CallAt K A H p c ∧ ∀ (l : Addr) (H' : Hp), Same H H' → H' l = some (.tup ((linesC c).map V.str)) → Q (.ref l) H'
theorem ok_Call_lines (T : Txt K mg A) : FnOk P w K mg base CX0 2 A.a_Call_lines A.d_Call_lines ["self"] (spLinesC K A) := by
  have nd := sc_Call_lines.nd
  refine T.f_Call_lines.ok sc_Call_lines (fun vs H Q E h => ?_) (fun cdv A' outer s H vs Q E hr h => ?_)
  · obtain ⟨p, c, rfl, _⟩ := h
    rfl
  · obtain ⟨p, c, rfl, ⟨dx, fs, pp, pb, pc, ps, pz, bs, h1, n, h2, h3, h4, h5, h6, h7, h8, h9, h10, h11, h12, h13, ok⟩, q⟩ := h
    refine ⟨_, (pss_one (ps_ret (pe_tup (pa_cons (pe_join pe_str (pe_lst (pa_cons pe_str (pa_cons (pe_fld (pv 0) rfl) (pa_star (pe_fld (pv 0) rfl) pa_nil))))) (pa_star (pe_call (ok_indented T) (hr.mono (by decide)) (by rfl) T.m_indented T.k_indented T.v_indented .nil pass0 (pa_cons (pe_fld (pv 0) rfl) pa_nil)) pa_nil))))), ?_⟩
    have hk := headC_ok ok
    have l1 := linesC_ok ok h7
    refine ⟨⟨_, rfl⟩, _, rfl, p, A.c_Call, dx, fs, _, rfl, h1, T.cl_Call, T.na_Call_name, h2, _, rfl, p, A.c_Call, dx, fs, _, rfl, h1, T.cl_Call, T.na_Call_parameters, h3, pp, _, rfl, .inl h4, ?_⟩
    have f2 := ok.few
    refine ⟨(by show ((c.zs.map V.str ++ []).length + 1 + 1) ≤ sizeLine; rw [List.append_nil, List.length_map]; exact len5000 (by omega)), fun l nl => ?_⟩
    have s1 := same_new (o := .lst (.str "call" :: .str c.z :: (c.zs.map V.str ++ []))) nl
    refine ⟨" ", l, "call" :: c.z :: c.zs, rfl, rfl, .inl (SqL.of (by rw [List.append_nil, upd_same]; rfl)), ?_, ?_⟩
    · have z8 := ok.nm.2.2
      have t8 := sum_len (n := 8) fun r hr => (ok.tags r hr).2.2
      have l1 : (" " : Str).length = 1 := rfl
      have l2 : ("call" : Str).length = 4 := rfl
      simp only [List.map_cons, List.sum_cons, List.length_cons, l1, l2]
      omega
    · have kp := KpT.of_same s1
      obtain ⟨e1, e2, e3, e4, _⟩ := h7.sums
      have h6' := kp.sq h6
      rw [← e1] at h6'
      have lv := ok.lv
      have am := ok.am
      refine ⟨_, rfl, p, A.c_Call, dx, fs, _, rfl, s1 _ _ h1, T.cl_Call, T.na_Call_body, h5, pb, partsOf bs c.ts, rfl, h6', h7.parts.mv kp, by omega, by omega, fun li H2 nli s2 hli => ?_⟩
      refine ⟨li, _, rfl, .inr (SqL.of hli), ?_⟩
      have l81 := l1.2
      unfold linesC at l81
      refine ⟨?_, fun lt nlt => q lt _ ((s1.trans s2).trans (same_new nlt)) ?_⟩
      · show ((ind (flatR (partsOf bs c.ts))).map V.str ++ []).length + 1 ≤ sizeLine
        rw [List.append_nil, List.length_map, e4]
        exact len5000 (by simp only [List.length_cons] at l81; omega)
      · rw [List.append_nil, e4, upd_same]
        rfl
def spEqC (K : PySem.W.Frag) (A : Ads) : Sp := fun vs H Q _ => ∃ (p : Addr) (c : Cl) (y : V), vs = [.ref p, y] ∧ CallAt K A H p c ∧ ((∃ q d, y = .ref q ∧ CallAt K A H q d ∧ ∀ H', Same H H' → Q (.bl (decide (linesC c = linesC d))) H') ∨ ∃ n : Ty7, TyX K H y (.type n.nm) ∧ Q (.bl false) H)
theorem ok_Call___eq__ (T : Txt K mg A) : FnOk P w K mg base CX0 4 A.a_Call___eq__ A.d_Call___eq__ ["self", "other"] (spEqC K A) := by
  have nd := sc_Call___eq__.nd
  refine T.f_Call___eq__.ok sc_Call___eq__ (fun vs H Q E h => ?_) (fun cdv A' outer s H vs Q E hr h => ?_)
  · obtain ⟨p, c, y, rfl, _⟩ := h
    rfl
  · obtain ⟨p, c, y, rfl, hc, h⟩ := h
    have ⟨dx, fs, pp, pb, pc, ps, pz, bs, h1, n, h2, h3, h4, h5, h6, h7, h8, h9, h10, h11, h12, h13, ok⟩ := hc
    refine ⟨_, (pss_one (ps_ret (pe_and (pe_callB call_isi (by rfl) T.b_isinstance (by decide +kernel) (pa_cons (pv 1) (pa_cons (pe_gR T.m_Call) pa_nil))) (pe_one (pe_cmpR (op_eqD hr.units) (pe_prop (pv 0) T.cl_Call T.pr_Call_lines (ok_Call_lines T) (hr.mono (by decide)) T.v_Call_lines .nil pass0 rfl) (pe_prop (pv 1) T.cl_Call T.pr_Call_lines (ok_Call_lines T) (hr.mono (by decide)) T.v_Call_lines .nil pass0 rfl) (nomark _)))))), ?_⟩
    rcases h with ⟨q, d, rfl, hd, k⟩ | ⟨n, th, k⟩
    · have ⟨dx', fs', pp', pb', pc', ps', pz', bs', g1, n', g2, g3, g4, g5, g6, g7, g8, g9, g10, g11, g12, g13, gok⟩ := hd
      have l1 := linesC_ok ok h7
      have l2 := linesC_ok gok g7
      refine ⟨_, rfl, _, _, _, _, _, rfl, .own _, T.ty_Call _ _ _ _ g1, T.ks_Call, _, rfl, ?_⟩
      refine ⟨_, rfl, p, dx, fs, rfl, h1, p, c, rfl, hc, fun l H1 s1 hl => ?_⟩
      refine ⟨_, rfl, q, dx', fs', rfl, s1 _ _ g1, q, d, rfl, hd.mv (KpT.of_same s1), fun l2' H2 s2 hl2 => ?_⟩
      refine ⟨rowsD (linesC c), rowsD (linesC d), .tup (SqT.of (s2 _ _ hl)) (dp_strs _), .tup (SqT.of hl2) (dp_strs _), shaped_rows fun r hr => (l1.1 r hr).2, shaped_rows fun r hr => (l2.1 r hr).2, ?_⟩
      rw [eqv_rows (fun r hr => (l1.1 r hr).2) (fun r hr => (l2.1 r hr).2)]
      exact k _ (s1.trans s2)
    · exact ⟨_, rfl, _, _, _, _, _, rfl, .own _, th, T.ki_Call n, _, rfl, k⟩
def textC (c : Cl) : Str := Txt.join "\n" (linesC c)
def spStrC (K : PySem.W.Frag) (A : Ads) : Sp := fun vs H Q _ => ∃ (p : Addr) (c : Cl), vs = [.ref p] ∧ CallAt K A H p c ∧ ∀ H', Same H H' → Q (.str (textC c)) H'
theorem ok_Call___str__ (T : Txt K mg A) : FnOk P w K mg base CX0 4 A.a_Call___str__ A.d_Call___str__ ["self"] (spStrC K A) := by
  have nd := sc_Call___str__.nd
  refine T.f_Call___str__.ok sc_Call___str__ (fun vs H Q E h => ?_) (fun cdv A' outer s H vs Q E hr h => ?_)
  · obtain ⟨p, c, rfl, _⟩ := h
    rfl
  · obtain ⟨p, c, rfl, hc, q⟩ := h
    have ⟨dx, fs, pp, pb, pc, ps, pz, bs, h1, n, h2, h3, h4, h5, h6, h7, h8, h9, h10, h11, h12, h13, ok⟩ := hc
    refine ⟨_, (pss_one (ps_ret (pe_join pe_str (pe_prop (pv 0) T.cl_Call T.pr_Call_lines (ok_Call_lines T) (hr.mono (by decide)) T.v_Call_lines .nil pass0 rfl)))), ?_⟩
    have l1 := linesC_ok ok h7
    refine ⟨⟨_, rfl⟩, _, rfl, p, dx, fs, rfl, h1, p, c, rfl, hc, fun l H1 s1 hl => ?_⟩
    refine ⟨"\n", l, linesC c, rfl, rfl, .inr (SqT.of hl), ?_, q _ s1⟩
    have := sum_len (n := 212) fun r hr => (l1.1 r hr).1
    have e : ("\n" : Str).length = 1 := rfl
    rw [e]
    omega
def reprC (a b : Nat) : Str := ("Call(" : Str) ++ ((toString ((a : Nat) : Int) : String) : Str) ++ (" statements, " : Str) ++ ((toString ((b : Nat) : Int) : String) : Str) ++ (" steps)" : Str)
theorem log40 {i : Nat} (h : i ≤ 40) : ((i : Nat) : Int).natAbs.log2 < 1920 := by
  have e : ((i : Nat) : Int).natAbs = i := rfl
  rw [e]
  have z : ∀ j : Fin 41, j.val.log2 < 1920 := by decide +kernel
  exact z ⟨i, by omega⟩
theorem num40 : ∀ i : Nat, i ≤ 40 → (((toString ((i : Nat) : Int) : String) : Str)).length ≤ 2 := by
  intro i h
  have z : ∀ j : Fin 41, (((toString ((j.val : Nat) : Int) : String) : Str)).length ≤ 2 := by decide +kernel
  exact z ⟨i, by omega⟩
def spReprC (K : PySem.W.Frag) (A : Ads) : Sp := fun vs H Q _ => ∃ (p : Addr) (c : Cl), vs = [.ref p] ∧ CallAt K A H p c ∧ Q (.str (reprC (amB c.ts) (pcB c.ts))) H
theorem ok_Call___repr__ (T : Txt K mg A) : FnOk P w K mg base CX0 1 A.a_Call___repr__ A.d_Call___repr__ ["self"] (spReprC K A) := by
  have nd := sc_Call___repr__.nd
  refine T.f_Call___repr__.ok sc_Call___repr__ (fun vs H Q E h => ?_) (fun cdv A' outer s H vs Q E hr h => ?_)
  · obtain ⟨p, c, rfl, _⟩ := h
    rfl
  · obtain ⟨p, c, rfl, ⟨dx, fs, pp, pb, pc, ps, pz, bs, h1, n, h2, h3, h4, h5, h6, h7, h8, h9, h10, h11, h12, h13, ok⟩, q⟩ := h
    refine ⟨_, (pss_one (ps_ret (pe_fs (.cons pe_str (.cons (pe_fmt (pe_ix ix_tup (pe_fld (pv 0) rfl) pe_int (fun _ _ => rfl))) (.cons pe_str (.cons (pe_fmt (pe_ix ix_tup (pe_fld (pv 0) rfl) pe_int (fun _ _ => rfl))) (.cons pe_str .nil)))))))), ?_⟩
    have n1 := num40 (amB c.ts) ok.am
    have n2 := num40 (pcB c.ts) (by have := ok.pc; omega)
    have l0 : (Str.empty).length = 0 := rfl
    have l1 : ("Call(" : Str).length = 5 := rfl
    have l2 : (" statements, " : Str).length = 13 := rfl
    have l3 : (" steps)" : Str).length = 7 := rfl
    refine ⟨("Call(" : Str), rfl, len5000 (by simp only [app_length, l0, l1]; omega), _, rfl, p, A.c_Call, dx, fs, _, rfl, h1, T.cl_Call, T.na_Call_sizes, h12, pz, _, _, _, rfl, rfl, h13, atI_nat (j := 0) rfl, Or.inr ⟨_, rfl, ?_, ?_⟩⟩
    · exact log40 ok.am
    refine ⟨_, rfl, len5000 (by simp only [app_length, l0, l1]; omega), (" statements, " : Str), rfl, len5000 (by simp only [app_length, l0, l1, l2]; omega), _, rfl, p, A.c_Call, dx, fs, _, rfl, h1, T.cl_Call, T.na_Call_sizes, h12, pz, _, _, _, rfl, rfl, h13, atI_nat (j := 1) rfl, Or.inr ⟨_, rfl, ?_, ?_⟩⟩
    · exact log40 (by have := ok.pc; omega)
    refine ⟨_, rfl, len5000 (by simp only [app_length, l0, l1, l2]; omega), (" steps)" : Str), rfl, len5000 (by simp only [app_length, l0, l1, l2, l3]; omega), ?_⟩
    show Q (.str (Str.empty ++ ("Call(" : Str) ++ _ ++ _ ++ _ ++ _)) H
    rw [emp_app]
    exact q
end
end K07
set_option Elab.async false
set_option linter.all false
set_option maxRecDepth 100000
set_option maxHeartbeats 4000000
namespace K07
open PySem PySem.Spec PyProof.Rows L2 Mo
/-! ### what a tree uses: names, goals, rooms -/
def us1 (zs gs rs : List Str) (u : Tr) : Prop := (∀ z ∈ (fdT u).ment, z ∈ zs ∨ fixedB z = true) ∧ (∀ z, (fdT u).into = some z → z ∈ gs) ∧ (∀ z, (fdT u).cell = some z → z ∈ rs) ∧ wf1 u
def UsT (zs gs rs : List Str) (t : Tr) : Prop := ∀ u ∈ allT t, us1 zs gs rs u
def UsB (zs gs rs : List Str) (ts : List Tr) : Prop := ∀ u ∈ allB ts, us1 zs gs rs u
theorem UsB.nil {zs gs rs : List Str} : UsB zs gs rs [] := fun u h => by
  rw [allB_nil] at h
  exact (List.not_mem_nil h).elim
theorem UsB.app {zs gs rs : List Str} {a b : List Tr} (h : UsB zs gs rs a) (g : UsB zs gs rs b) : UsB zs gs rs (a ++ b) := fun u hu => by
  rw [allB_app] at hu
  exact (List.mem_append.mp hu).elim (h u) (g u)
theorem UsB.of {zs gs rs : List Str} : ∀ {ts : List Tr}, (∀ t ∈ ts, UsT zs gs rs t) → UsB zs gs rs ts
  | [], _ => UsB.nil
  | t :: ts, h => fun u hu => by
    rw [allB_cons] at hu
    rcases List.mem_append.mp hu with hu | hu
    · exact h t (List.mem_cons_self ..) u hu
    · exact UsB.of (fun v hv => h v (List.mem_cons_of_mem _ hv)) u hu
theorem UsB.at {zs gs rs : List Str} {ts : List Tr} (h : UsB zs gs rs ts) {t : Tr} (ht : t ∈ ts) : UsT zs gs rs t := fun u hu => h u (allB_mem ht u hu)
theorem UsT.mk {zs gs rs : List Str} {t : Tr} (h : us1 zs gs rs t) (g : UsB zs gs rs (t.inner ++ t.outer)) : UsT zs gs rs t := fun u hu => by
  rw [allT_eq] at hu
  rcases List.mem_cons.mp hu with rfl | hu
  · exact h
  · exact g u hu
theorem noS {z : Str} {p : Prop} (h : (none : Option Str) = some z) : p := nomatch h
theorem someS {z y : Str} {l : List Str} (m : y ∈ l) (h : some y = some z) : z ∈ l := Option.some.inj h ▸ m
theorem loB_all : ∀ {ts : List Tr}, (∀ t ∈ ts, loT t = false) → loB ts = false
  | [], _ => loB_nil
  | t :: ts, h => by
    rw [loB_cons, h t (List.mem_cons_self ..), loB_all fun u hu => h u (List.mem_cons_of_mem _ hu)]
    rfl
def OperM (zs : List Str) (z : Str) : Prop := OperT z ∧ (z ∈ zs ∨ fixedB z = true)
theorem fixed_of {z : Str} (h : z ∈ (["nothing", "yes"] : List Str)) : fixedB z = true := by
  rcases List.mem_cons.mp h with rfl | h
  · rfl
  · rw [List.mem_singleton.mp h]
    rfl
def cap : Nat → Nat
  | 0 => 1
  | n + 1 => 1 + 6 * cap n
theorem cap_pos : ∀ n, 1 ≤ cap n
  | 0 => Nat.le_refl _
  | n + 1 => by
    show 1 ≤ 1 + 6 * cap n
    omega
section
variable {w : World} {K : PySem.W.Frag} {mg : Str → Option Value} {base : Heap} {A : Ads}
def spOperM : Sp := fun vs H Q _ => ∃ (a b : Addr) (zs : List Str), vs = [.ref a, .ref b] ∧ Src H a ∧ H b = some (.lst (zs.map V.str)) ∧ zs.length ≤ 10 ∧ (∀ z ∈ zs, NameT z) ∧ ∀ (z : Str) (H' : Hp), OperM zs z → Src H' a → KeepBut a H H' → Q (.str z) H'
theorem ok_law_operM (T : Txt K mg A) : FnOk P w K mg base CX0 2 A.a_law_operand A.d_law_operand ["_law_source_here", "_law_names"] spOperM := by
  have nd := sc_law_operand.nd
  refine T.f_law_operand.ok sc_law_operand (fun vs H Q E h => ?_) (fun cdv A' outer s H vs Q E hr h => ?_)
  · obtain ⟨a, b, zs, rfl, _⟩ := h
    rfl
  · obtain ⟨a, b, zs, rfl, src, hb, lz, nz, q⟩ := h
    refine ⟨_, (pss_cons (ps_set (i := 2) nd rfl (Or.inl rfl) (pe_op op_cat (pv 1) (pe_lst (pa_cons pe_str (pa_cons pe_str pa_nil)))))
      (pss_one (ps_ret (pe_ix ix_list (pv 2) (pe_call (ok_law_take T) (hr.mono (by decide)) (by rfl) T.m_law_take T.k_law_take T.v_law_take .nil pass0 (pa_cons (pv 0) (pa_cons (pe_callB call_len_seq (by rfl) T.b_len (by decide +kernel) (pa_cons (pv 2) pa_nil)) pa_nil))) (fun _ _ => rfl))))), ?_⟩
    refine ⟨_, rfl, (by show 2 ≤ sizeLine; decide), fun p1 n1 => ?_⟩
    have s1 := same_new (o := .lst [.str "nothing", .str "yes"]) n1
    refine ⟨b, p1, _, _, rfl, rfl, s1 _ _ hb, upd_same, ?_, fun p2 n2 => ?_⟩
    · rw [List.length_map]
      exact len5000 (by show zs.length + 2 ≤ 5000; omega)
    have s2 := s1.trans (same_new (o := .lst (zs.map V.str ++ [.str "nothing", .str "yes"])) n2)
    have src2 := src.same s2
    have n2a : p2 ≠ a := (src.same s1).fresh n2
    have len2 : (zs.map V.str ++ [V.str "nothing", V.str "yes"]).length = zs.length + 2 := by simp
    refine ⟨_, rfl, _, rfl, _, rfl, p2, _, rfl, Or.inl (SqL.of upd_same), a, _, rfl, src2, ?_, ?_, fun d H3 d0 d1 src3 kb3 => ?_⟩
    · rw [len2]
      omega
    · rw [len2]
      omega
    obtain ⟨y, hy, ym⟩ := at_in (l := zs.map V.str ++ [V.str "nothing", V.str "yes"]) d0 d1
    obtain ⟨z, rfl, oz⟩ : ∃ z, y = .str z ∧ OperM zs z := by
      rcases List.mem_append.mp ym with ym | ym
      · obtain ⟨z, hz, rfl⟩ := List.mem_map.mp ym
        exact ⟨z, rfl, (nz z hz).oper, .inl hz⟩
      · obtain ⟨z, hz, rfl⟩ := List.mem_map.mp (show y ∈ (["nothing", "yes"] : List Str).map V.str from ym)
        exact ⟨z, rfl, oper_fixed z hz, .inr (fixed_of hz)⟩
    refine ⟨p2, _, d, _, rfl, rfl, SqL.of (kb3 _ _ n2a upd_same), hy, ?_⟩
    exact q z H3 oz src3 ((KeepBut.of_same s2).trans kb3)
def WorldAs (H : Hp) (wl : Addr) (zs gs rs : List Str) : Prop := ∃ (nm gl rm : Addr), H wl = some (.lst [.ref nm, .ref gl, .ref rm]) ∧ H nm = some (.lst (zs.map V.str)) ∧ H gl = some (.lst (gs.map V.str)) ∧ H rm = some (.lst (rs.map V.str)) ∧ 1 ≤ zs.length ∧ zs.length ≤ 10 ∧ 1 ≤ gs.length ∧ gs.length ≤ 10 ∧ 1 ≤ rs.length ∧ rs.length ≤ 10 ∧ (∀ z ∈ zs, NameT z) ∧ (∀ z ∈ gs, NameT z) ∧ (∀ z ∈ rs, NameT z) ∧ ∀ z ∈ gs, z ∈ zs
theorem WorldAs.mv {H H' : Hp} {a wl : Addr} {zs gs rs : List Str} (h : WorldAs H wl zs gs rs) (src : Src H a) (k : KeepBut a H H') : WorldAs H' wl zs gs rs := by
  obtain ⟨nm, gl, rm, h1, h2, h3, h4, l1, l2, l3, l4, l5, l6, r⟩ := h
  have nw : wl ≠ a := by
    obtain ⟨x, y, c, e, _⟩ := src
    exact ne_of h1 e (by intro z; injection z with z; injection z with z; cases z)
  exact ⟨nm, gl, rm, k _ _ nw h1, k _ _ (ne_src src h2 l1) h2, k _ _ (ne_src src h3 l3) h3, k _ _ (ne_src src h4 l5) h4, l1, l2, l3, l4, l5, l6, r⟩
def spLine (K : PySem.W.Frag) : Sp := fun vs H Q _ => ∃ (a wl : Addr) (zs gs rs : List Str), vs = [.ref a, .ref wl] ∧ Src H a ∧ WorldAs H wl zs gs rs ∧ ∀ (p : Addr) (k : Nat) (xs : List Str) (line : Str) (H' : Hp), TrAt K H' p (.one k xs line) → k ≤ 4 → us1 zs gs rs (.one k xs line) → Src H' a → KeepBut a H H' → Q (.ref p) H'
theorem ok_law_line (T : Txt K mg A) : FnOk P w K mg base CX0 3 A.a_law_line A.d_law_line ["_law_source_here", "_law_world"] (spLine K) := by
  have nd := sc_law_line.nd
  refine T.f_law_line.ok sc_law_line (fun vs H Q E h => ?_) (fun cdv A' outer s H vs Q E hr h => ?_)
  · obtain ⟨a, wl, zs, gs, rs, rfl, _⟩ := h
    rfl
  · obtain ⟨a, wl, zs, gs, rs, rfl, src, ⟨nm, gl, rm, h1, h2, h3, h4, l1, l2, l3, l4, l5, l6, nz, ng, nr, gz⟩, q⟩ := h
    have n2 := ne_src src h2 l1
    have n3 := ne_src src h3 l3
    have n4 := ne_src src h4 l5
    refine ⟨_, (pss_cons (ps_asg (pv 1) (pg_unl rfl (pgs_cons (pg_name (i := 2) nd rfl (Or.inl rfl)) (pgs_cons (pg_name (i := 3) nd rfl (Or.inl rfl)) (pgs_cons (pg_name (i := 4) nd rfl (Or.inl rfl)) pgs_nil)))))
      (pss_cons (ps_par (i := 5) (j := 6) rfl nd rfl rfl (by decide) rfl rfl (pa_cons (pe_ix ix_list (pv 4) (pe_call (ok_law_take T) (hr.mono (by decide)) (by rfl) T.m_law_take T.k_law_take T.v_law_take .nil pass0 (pa_cons (pv 0) (pa_cons (pe_callB call_len_seq (by rfl) T.b_len (by decide +kernel) (pa_cons (pv 4) pa_nil)) pa_nil))) (fun _ _ => rfl)) (pa_cons (pe_ix ix_list (pv 3) (pe_call (ok_law_take T) (hr.mono (by decide)) (by rfl) T.m_law_take T.k_law_take T.v_law_take .nil pass0 (pa_cons (pv 0) (pa_cons (pe_callB call_len_seq (by rfl) T.b_len (by decide +kernel) (pa_cons (pv 3) pa_nil)) pa_nil))) (fun _ _ => rfl)) pa_nil)) (by rfl))
      (pss_cons (ps_par (i := 7) (j := 8) rfl nd rfl rfl (by decide) rfl rfl (pa_cons (pe_call (ok_law_operM T) (hr.mono (by decide)) (by rfl) T.m_law_operand T.k_law_operand T.v_law_operand .nil pass0 (pa_cons (pv 0) (pa_cons (pv 2) pa_nil))) (pa_cons (pe_call (ok_law_operM T) (hr.mono (by decide)) (by rfl) T.m_law_operand T.k_law_operand T.v_law_operand .nil pass0 (pa_cons (pv 0) (pa_cons (pv 2) pa_nil))) pa_nil)) (by rfl))
      (pss_cons (ps_set (i := 9) nd rfl (Or.inl rfl) (pe_call (ok_law_take T) (hr.mono (by decide)) (by rfl) T.m_law_take T.k_law_take T.v_law_take .nil pass0 (pa_cons (pv 0) (pa_cons pe_int pa_nil))))
      (pss_cons (ps_if (pt_cmpR op_eq (pv 9) pe_int (nomark _)) (pss_one (ps_ret (pe_tup (pa_cons pe_str (pa_cons (pv 5) (pa_cons (pv 6) pa_nil)))))) pss_nil)
      (pss_cons (ps_if (pt_cmpR op_eq (pv 9) pe_int (nomark _)) (pss_one (ps_ret (pe_tup (pa_cons pe_str (pa_cons (pv 5) (pa_cons (pv 7) pa_nil)))))) pss_nil)
      (pss_cons (ps_if (pt_cmpR op_eq (pv 9) pe_int (nomark _)) (pss_one (ps_ret (pe_tup (pa_cons pe_str (pa_cons (pv 5) (pa_cons (pv 7) (pa_cons (pv 6) pa_nil))))))) pss_nil)
      (pss_one (ps_ret (pe_ifExp (pt_cmpR op_eq (pv 9) pe_int (nomark _)) (pe_tup (pa_cons pe_str (pa_cons (pv 5) (pa_cons (pv 7) (pa_cons (pv 8) (pa_cons (pv 6) pa_nil)))))) (pe_tup (pa_cons pe_str (pa_cons (pv 6) (pa_cons (pv 7) pa_nil)))))))))))))), ?_⟩
    refine ⟨_, rfl, wl, _, rfl, SqL.of h1, rfl, _, _, rfl, _, _, rfl, _, _, rfl, rfl, ?_⟩
    refine ⟨_, rfl, _, rfl, _, rfl, rm, _, rfl, Or.inl (SqL.of h4), a, _, rfl, src, by rw [List.length_map]; omega, by rw [List.length_map]; omega, fun d H3 d0 d1 src3 kb3 => ?_⟩
    obtain ⟨y, hy, ym⟩ := at_in (l := rs.map V.str) d0 d1
    obtain ⟨room, hroom, rfl⟩ := List.mem_map.mp ym
    have nroom := nr room hroom
    refine ⟨rm, _, d, _, rfl, rfl, SqL.of (kb3 _ _ n4 h4), hy, ?_⟩
    refine ⟨_, rfl, _, rfl, _, rfl, gl, _, rfl, Or.inl (SqL.of (kb3 _ _ n3 h3)), a, _, rfl, src3, by rw [List.length_map]; omega, by rw [List.length_map]; omega, fun d2 H4 d20 d21 src4 kb4 => ?_⟩
    obtain ⟨y2, hy2, ym2⟩ := at_in (l := gs.map V.str) d20 d21
    obtain ⟨goal, hgoal, rfl⟩ := List.mem_map.mp ym2
    have ngoal := ng goal hgoal
    have kb04 := kb3.trans kb4
    refine ⟨gl, _, d2, _, rfl, rfl, SqL.of (kb04 _ _ n3 h3), hy2, _, _, rfl, ?_⟩
    refine ⟨_, rfl, _, rfl, a, nm, zs, rfl, src4, kb04 _ _ n2 h2, l2, nz, fun o1 H5 ho1 src5 kb5 => ?_⟩
    have kb05 := kb04.trans kb5
    refine ⟨_, rfl, _, rfl, a, nm, zs, rfl, src5, kb05 _ _ n2 h2, l2, nz, fun o2 H6 ho2 src6 kb6 => ⟨_, _, rfl, ?_⟩⟩
    have kb06 := kb05.trans kb6
    refine ⟨_, rfl, a, _, rfl, src6, by decide, by decide, fun way H7 w0 w5 src7 kb7 => ?_⟩
    have kb07 := kb06.trans kb7
    have fin : ∀ (k : Nat) (xs : List Str) (line : Str), One k xs line → k ≤ 4 → us1 zs gs rs (.one k xs line) → ∀ p, H7 p = none → Q (.ref p) (upd H7 p (.tup (xs.map V.str))) := by
      intro k xs line o hk us p hp
      have s8 := same_new (o := .tup (xs.map V.str)) hp
      exact q p k xs line _ (.one upd_same o) hk us (src7.same s8) (kb07.trans (KeepBut.of_same s8))
    have w' : way = 0 ∨ way = 1 ∨ way = 2 ∨ way = 3 ∨ way = 4 := by omega
    rcases w' with rfl | rfl | rfl | rfl | rfl
    · refine ⟨_, rfl, rfl, _, rfl, ?_⟩
      exact ⟨_, rfl, _, rfl, (by show 3 ≤ sizeLine; decide), fun p hp => fin 0 _ _ (.look nroom ngoal) (by decide) ⟨all1 (.inl (gz goal hgoal)), fun z h => someS hgoal h, fun z h => someS hroom h, .look nroom ngoal⟩ p hp⟩
    · refine ⟨_, rfl, rfl, _, rfl, ?_⟩
      refine ⟨_, rfl, rfl, _, rfl, ?_⟩
      exact ⟨_, rfl, _, rfl, (by show 3 ≤ sizeLine; decide), fun p hp => fin 1 _ _ (.put nroom ho1.1) (by decide) ⟨all1 ho1.2, fun z h => noS h, fun z h => someS hroom h, .put nroom ho1.1⟩ p hp⟩
    · refine ⟨_, rfl, rfl, _, rfl, ?_⟩
      refine ⟨_, rfl, rfl, _, rfl, ?_⟩
      refine ⟨_, rfl, rfl, _, rfl, ?_⟩
      exact ⟨_, rfl, _, rfl, _, rfl, (by show 4 ≤ sizeLine; decide), fun p hp => fin 2 _ _ (.swap nroom ho1.1 ngoal) (by decide) ⟨all2 ho1.2 (.inl (gz goal hgoal)), fun z h => someS hgoal h, fun z h => someS hroom h, .swap nroom ho1.1 ngoal⟩ p hp⟩
    · refine ⟨_, rfl, rfl, _, rfl, ?_⟩
      refine ⟨_, rfl, rfl, _, rfl, ?_⟩
      refine ⟨_, rfl, rfl, _, rfl, ?_⟩
      refine ⟨_, rfl, rfl, _, rfl, ?_⟩
      exact ⟨_, rfl, _, rfl, _, rfl, _, rfl, (by show 5 ≤ sizeLine; decide), fun p hp => fin 3 _ _ (.try_ nroom ho1.1 ho2.1 ngoal) (by decide) ⟨List.forall_mem_cons.mpr ⟨ho1.2, all2 ho2.2 (.inl (gz goal hgoal))⟩, fun z h => someS hgoal h, fun z h => someS hroom h, .try_ nroom ho1.1 ho2.1 ngoal⟩ p hp⟩
    · refine ⟨_, rfl, rfl, _, rfl, ?_⟩
      refine ⟨_, rfl, rfl, _, rfl, ?_⟩
      refine ⟨_, rfl, rfl, _, rfl, ?_⟩
      refine ⟨_, rfl, rfl, _, rfl, ?_⟩
      exact ⟨_, rfl, _, rfl, (by show 3 ≤ sizeLine; decide), fun p hp => fin 4 _ _ (.let_ ngoal ho1.1) (by decide) ⟨all2 (.inl (gz goal hgoal)) ho1.2, fun z h => someS hgoal h, fun z h => noS h, .let_ ngoal ho1.1⟩ p hp⟩
theorem lvB_cap {n : Nat} : ∀ {ts : List Tr}, (∀ t ∈ ts, lvT t ≤ n) → lvB ts ≤ n
  | [], _ => by rw [lvB_nil]; omega
  | t :: ts, h => by
    have h1 := h t List.mem_cons_self
    have h2 := lvB_cap fun u hu => h u (List.mem_cons_of_mem _ hu)
    rw [lvB_cons]
    omega
theorem amB_cap {n : Nat} : ∀ {ts : List Tr}, (∀ t ∈ ts, amT t ≤ n) → amB ts ≤ ts.length * n
  | [], _ => by rw [amB_nil]; omega
  | t :: ts, h => by
    have h1 := h t List.mem_cons_self
    have h2 := amB_cap fun u hu => h u (List.mem_cons_of_mem _ hu)
    rw [amB_cons, List.length_cons, Nat.succ_mul]
    omega
/-- a drawn tree -/
structure Drawn (zs gs rs : List Str) (t : Tr) (n m : Nat) (sort : Str) : Prop where
  lv : lvT t ≤ n
  am : amT t ≤ m
  ok : okT t = true
  go : sort = "joined" → goT t = true
  us : UsT zs gs rs t
  lo : sort ≠ "loop" → loT t = false
def spStm (K : PySem.W.Frag) (n : Nat) : Sp := fun vs H Q _ => ∃ (a wl : Addr) (d : Int) (sort : Str) (zs gs rs : List Str), vs = [.ref a, .ref wl, .int d, .str sort] ∧ d = (n : Int) ∧ (sort = "call" ∨ sort = "loop" ∨ sort = "joined") ∧ Src H a ∧ WorldAs H wl zs gs rs ∧
  ∀ (p : Addr) (t : Tr) (H' : Hp), TrAt K H' p t → Drawn zs gs rs t (n + 1) (cap n) sort → Src H' a → KeepBut a H H' → Q (.ref p) H'
def spBdy (K : PySem.W.Frag) (n : Nat) : Sp := fun vs H Q _ => ∃ (a wl : Addr) (d : Int) (sort : Str) (m : Nat) (zs gs rs : List Str), vs = [.ref a, .ref wl, .int d, .str sort] ∧ d = (m : Int) ∧ n = m + 1 ∧ (sort = "call" ∨ sort = "loop" ∨ sort = "joined") ∧ Src H a ∧ WorldAs H wl zs gs rs ∧
  ∀ (pb : Addr) (ts : List Tr) (H' : Hp), BodyAt K H' pb ts → lvB ts ≤ m + 1 → amB ts ≤ 3 * cap m → okB ts = true → (sort = "joined" → goB ts = true) → UsB zs gs rs ts → (sort ≠ "loop" → loB ts = false) → Src H' a → KeepBut a H H' → Q (.ref pb) H'
theorem drawn_one {zs gs rs : List Str} {k n m : Nat} {xs : List Str} {line sort : Str} (hk : k ≤ 4) (hm : 1 ≤ m) (us : us1 zs gs rs (.one k xs line)) : Drawn zs gs rs (.one k xs line) (n + 1) m sort := by
  refine ⟨?_, ?_, ?_, fun _ => ?_, UsT.mk us UsB.nil, fun _ => ?_⟩
  · rw [lvT]
    omega
  · rw [amT]
    exact hm
  · rw [okT]
  · rw [goT]
    unfold goK
    rw [decide_eq_true hk]
    rfl
  · rw [loT]
    have : k ≠ 5 := by omega
    simp [this]
theorem stm_step (T : Txt K mg A) (n : Nat) (ih : FnOk P w K mg base CX0 (2 * n + 4) A.a_law_body A.d_law_body ["_law_source_here", "_law_world", "_law_deep", "_law_sort"] (spBdy K n)) :
    FnOk P w K mg base CX0 (2 * n + 5) A.a_law_statement A.d_law_statement ["_law_source_here", "_law_world", "_law_deep", "_law_sort"] (spStm K n) := by
  have nd := sc_law_statement.nd
  refine T.f_law_statement.ok sc_law_statement (fun vs H Q E h => ?_) (fun cdv A' outer s H vs Q E hr h => ?_)
  · obtain ⟨a, wl, d, sort, zs, gs, rs, rfl, _⟩ := h
    rfl
  · obtain ⟨a, wl, d, sort, zs, gs, rs, rfl, hd, hs, src, hw, q⟩ := h
    refine ⟨_, (pss_cons (ps_set (i := 4) nd rfl (Or.inl rfl) (pe_call (ok_law_take T) (hr.mono (by omega)) (by rfl) T.m_law_take T.k_law_take T.v_law_take .nil pass0 (pa_cons (pv 0) (pa_cons pe_int pa_nil))))
      (pss_cons (ps_if (PW.pt (pw_or (pt_cmpR op_lt (pv 2) pe_int (nomark _)) (pw_or1 (pt_cmpR op_lt (pv 4) pe_int (nomark _))))) (pss_one (ps_ret (pe_call (ok_law_line T) (hr.mono (by omega)) (by rfl) T.m_law_line T.k_law_line T.v_law_line .nil pass0 (pa_cons (pv 0) (pa_cons (pv 1) pa_nil))))) pss_nil)
      (pss_cons (ps_if (pt_cmpR op_lt (pv 4) pe_int (nomark _)) (pss_cons (ps_par (i := 5) (j := 6) rfl nd rfl rfl (by decide) rfl rfl (pa_cons (pe_call (ok_law_operM T) (hr.mono (by omega)) (by rfl) T.m_law_operand T.k_law_operand T.v_law_operand .nil pass0 (pa_cons (pv 0) (pa_cons (pe_ix ix_list (pv 1) pe_int (fun _ _ => rfl)) pa_nil))) (pa_cons (pe_call (ok_law_operM T) (hr.mono (by omega)) (by rfl) T.m_law_operand T.k_law_operand T.v_law_operand .nil pass0 (pa_cons (pv 0) (pa_cons (pe_ix ix_list (pv 1) pe_int (fun _ _ => rfl)) pa_nil))) pa_nil)) (by rfl))
      (pss_cons (ps_set (i := 7) nd rfl (Or.inl rfl) (pe_call ih (hr.mono (by omega)) (by rfl) T.m_law_body T.k_law_body T.v_law_body .nil pass0 (pa_cons (pv 0) (pa_cons (pv 1) (pa_cons (pe_op op_sub (pv 2) pe_int) (pa_cons (pv 3) pa_nil))))))
      (pss_one (ps_ret (pe_tup (pa_cons pe_str (pa_cons (pv 5) (pa_cons (pv 6) (pa_cons (pv 7) (pa_cons (pe_ifExp (pt_cmpR op_gt (pv 4) pe_int (nomark _)) (pe_call ih (hr.mono (by omega)) (by rfl) T.m_law_body T.k_law_body T.v_law_body .nil pass0 (pa_cons (pv 0) (pa_cons (pv 1) (pa_cons (pe_op op_sub (pv 2) pe_int) (pa_cons (pv 3) pa_nil))))) (pe_tup pa_nil)) pa_nil)))))))))) pss_nil)
      (pss_cons (ps_if (pt_cmpR op_eq (pv 3) pe_str (nomark _)) (pss_one (ps_ret (pe_call (ok_law_line T) (hr.mono (by omega)) (by rfl) T.m_law_line T.k_law_line T.v_law_line .nil pass0 (pa_cons (pv 0) (pa_cons (pv 1) pa_nil))))) pss_nil)
      (pss_cons (ps_if (pt_cmpR op_eq (pv 4) pe_int (nomark _)) (pss_one (ps_ret (pe_tup (pa_cons pe_str (pa_cons (pe_call ih (hr.mono (by omega)) (by rfl) T.m_law_body T.k_law_body T.v_law_body .nil pass0 (pa_cons (pv 0) (pa_cons (pv 1) (pa_cons (pe_op op_sub (pv 2) pe_int) (pa_cons pe_str pa_nil))))) pa_nil))))) pss_nil)
      (pss_cons (ps_if (pt_cmpR op_eq (pv 4) pe_int (nomark _)) (pss_one (ps_ret (pe_tup (pa_cons pe_str (pa_cons (pe_call ih (hr.mono (by omega)) (by rfl) T.m_law_body T.k_law_body T.v_law_body .nil pass0 (pa_cons (pv 0) (pa_cons (pv 1) (pa_cons (pe_op op_sub (pv 2) pe_int) (pa_cons pe_str pa_nil))))) pa_nil))))) pss_nil)
      (pss_one (ps_ret (pe_ifExp (pt_cmpR op_eq (pv 3) pe_str (nomark _)) (pe_tup (pa_cons pe_str pa_nil)) (pe_tup (pa_cons pe_str (pa_cons (pe_call (ok_law_operM T) (hr.mono (by omega)) (by rfl) T.m_law_operand T.k_law_operand T.v_law_operand .nil pass0 (pa_cons (pv 0) (pa_cons (pe_ix ix_list (pv 1) pe_int (fun _ _ => rfl)) pa_nil))) pa_nil)))))))))))), ?_⟩
    refine ⟨_, rfl, a, _, rfl, src, by decide, by decide, fun way H2 w0 w1 src2 kb2 => ?_⟩
    have hw2 := hw.mv src kb2
    have cp := cap_pos n
    have line : ∃ (a' wl' : Addr) (zs' gs' rs' : List Str), [V.ref a, V.ref wl] = [.ref a', .ref wl'] ∧ Src H2 a' ∧ WorldAs H2 wl' zs' gs' rs' ∧ ∀ (p : Addr) (k : Nat) (xs : List Str) (line : Str) (H' : Hp), TrAt K H' p (.one k xs line) → k ≤ 4 → us1 zs' gs' rs' (.one k xs line) → Src H' a' → KeepBut a' H2 H' → Q (.ref p) H' :=
      ⟨a, wl, zs, gs, rs, rfl, src2, hw2, fun p k xs line H3 tr hk us src3 kb3 => q p _ H3 tr (drawn_one hk cp us) src3 (kb2.trans kb3)⟩
    refine ⟨_, rfl, _, _, rfl, rfl, _, rfl, ?_⟩
    refine ite2 (fun h1 => ?_) (fun h1 => ?_)
    · exact ⟨_, rfl, _, rfl, line⟩
    refine ⟨_, rfl, _, _, rfl, rfl, _, rfl, ?_⟩
    refine ite2 (fun h2 => ?_) (fun h2 => ?_)
    · exact ⟨_, rfl, _, rfl, line⟩
    have h1 : ¬ decide (d < 1) = true := h1
    have h2 : ¬ decide (way < 4) = true := h2
    have h1 : ¬ d < 1 := fun z => h1 (decide_eq_true z)
    have h2 : ¬ way < 4 := fun z => h2 (decide_eq_true z)
    obtain ⟨m, rfl⟩ : ∃ m : Nat, n = m + 1 := ⟨n - 1, by omega⟩
    have ce : cap (m + 1) = 1 + 6 * cap m := rfl
    refine ⟨_, rfl, _, _, rfl, rfl, _, rfl, ?_⟩
    refine ite2 (fun h3 => ?_) (fun h3 => ?_)
    · have hw2' := hw2
      obtain ⟨nm, gl, rm, g1, g2, g3, g4, l1, l2, l3, l4, l5, l6, nz, ng, nr, gz⟩ := hw2'
      refine ⟨_, rfl, _, rfl, wl, _, _, _, rfl, rfl, SqL.of g1, atI_nat (j := 0) rfl, a, nm, zs, rfl, src2, g2, l2, nz, fun o1 H3 ho1 src3 kb3 => ?_⟩
      have hw3 := hw2.mv src2 kb3
      have hnm3 := kb3 _ _ (ne_src src2 g2 l1) g2
      have hwl3 : H3 wl = some (.lst [.ref nm, .ref gl, .ref rm]) := kb3 _ _ (by
        obtain ⟨x, y, c, e, _⟩ := src2
        exact ne_of g1 e (by intro z; injection z with z; injection z with z; cases z)) g1
      refine ⟨_, rfl, _, rfl, wl, _, _, _, rfl, rfl, SqL.of hwl3, atI_nat (j := 0) rfl, a, nm, zs, rfl, src3, hnm3, l2, nz, fun o2 H4 ho2 src4 kb4 => ⟨_, _, rfl, ?_⟩⟩
      have hw4 := hw3.mv src3 kb4
      refine ⟨_, rfl, _, rfl, _, rfl, _, _, rfl, rfl, _, rfl, a, wl, d - 1, sort, m, zs, gs, rs, rfl, by omega, rfl, hs, src4, hw4, fun pb ts H5 bd lv am ok go uu lo src5 kb5 => ?_⟩
      have hw5 := hw4.mv src4 kb5
      have kb05 := ((kb2.trans kb3).trans kb4).trans kb5
      refine ⟨_, rfl, _, rfl, _, rfl, _, rfl, _, _, rfl, rfl, _, rfl, ?_⟩
      refine ite2 (fun h4 => ?_) (fun h4 => ?_)
      · refine ⟨_, rfl, _, rfl, _, rfl, _, _, rfl, rfl, _, rfl, a, wl, d - 1, sort, m, zs, gs, rs, rfl, by omega, rfl, hs, src5, hw5, fun pe us H6 be lv2 am2 ok2 go2 us2 lo2 src6 kb6 => ⟨(by show 5 ≤ sizeLine; decide), fun p hp => ?_⟩⟩
        have s7 := same_new (o := .tup [.str "if", .str o1, .str o2, .ref pb, .ref pe]) hp
        obtain ⟨ps, sq1, tr1⟩ := (bd.mv (src5.kp kb6)).mv (KpT.of_same s7)
        obtain ⟨qs, sq2, tr2⟩ := be.mv (KpT.of_same s7)
        refine q p (.cond o1 o2 ts us) _ (.cond upd_same ho1.1 ho2.1 sq1 sq2 tr1 tr2) ⟨?_, ?_, ?_, fun e => ?_, UsT.mk ⟨all2 ho1.2 ho2.2, fun z h => noS h, fun z h => noS h, trivial⟩ (uu.app us2), fun e => ?_⟩ (src6.same s7) ((kb05.trans kb6).trans (KeepBut.of_same s7))
        · rw [lvT]
          omega
        · rw [amT]
          omega
        · rw [okT, ok, ok2]
          rfl
        · rw [goT, go e, go2 e]
          rfl
        · rw [loT, lo e, lo2 e]
          rfl
      · refine ⟨Nat.zero_le _, fun pe hpe => ⟨(by show 5 ≤ sizeLine; decide), fun p hp => ?_⟩⟩
        have s6 := same_new (o := .tup []) hpe
        have s7 := same_new (o := .tup [.str "if", .str o1, .str o2, .ref pb, .ref pe]) hp
        obtain ⟨ps, sq1, tr1⟩ := bd.mv (KpT.of_same (s6.trans s7))
        refine q p (.cond o1 o2 ts []) _ (.cond (qs := []) upd_same ho1.1 ho2.1 sq1 (SqT.of (s7 _ _ upd_same)) tr1 .nil) ⟨?_, ?_, ?_, fun e => ?_, UsT.mk ⟨all2 ho1.2 ho2.2, fun z h => noS h, fun z h => noS h, trivial⟩ (uu.app UsB.nil), fun e => ?_⟩ (src5.same (s6.trans s7)) (kb05.trans (KeepBut.of_same (s6.trans s7)))
        · rw [lvT, lvB_nil]
          omega
        · rw [amT, amB_nil]
          omega
        · rw [okT, ok, okB_nil]
          rfl
        · rw [goT, go e, goB_nil]
          rfl
        · rw [loT, lo e, loB_nil]
          rfl
    have h3 : ¬ decide (way < 7) = true := h3
    have h3 : ¬ way < 7 := fun z => h3 (decide_eq_true z)
    rcases hs with rfl | rfl | rfl
    rotate_left 2
    · refine ⟨_, rfl, rfl, _, rfl, ?_⟩
      exact ⟨_, rfl, _, rfl, line⟩
    · refine ⟨_, rfl, rfl, _, rfl, ?_⟩
      have w' : way = 7 ∨ way = 8 ∨ way = 9 := by omega
      have nj : ∀ x : Tr, ("call" : Str) = "joined" → goT x = true := fun x e => absurd e (by decide)
      rcases w' with rfl | rfl | rfl
      · refine ⟨_, rfl, rfl, _, rfl, ?_⟩
        refine ⟨_, rfl, _, rfl, _, rfl, _, _, rfl, rfl, a, wl, d - 1, "loop", m, zs, gs, rs, rfl, by omega, rfl, .inr (.inl rfl), src2, hw2, fun pb ts H5 bd lv am ok go uu lo src5 kb5 => ⟨(by show 2 ≤ sizeLine; decide), fun p hp => ?_⟩⟩
        have s7 := same_new (o := .tup [.str "loop", .ref pb]) hp
        obtain ⟨ps, sq1, tr1⟩ := bd.mv (KpT.of_same s7)
        refine q p (.loop ts) _ (.loop upd_same sq1 tr1) ⟨?_, ?_, ?_, nj _, UsT.mk ⟨fun z h => (List.not_mem_nil h).elim, fun z h => noS h, fun z h => noS h, trivial⟩ (uu.app UsB.nil), fun _ => by rw [loT]⟩ (src5.same s7) ((kb2.trans kb5).trans (KeepBut.of_same s7))
        · rw [lvT]
          omega
        · rw [amT]
          omega
        · rw [okT, ok]
      · refine ⟨_, rfl, rfl, _, rfl, ?_⟩
        refine ⟨_, rfl, rfl, _, rfl, ?_⟩
        refine ⟨_, rfl, _, rfl, _, rfl, _, _, rfl, rfl, a, wl, d - 1, "joined", m, zs, gs, rs, rfl, by omega, rfl, .inr (.inr rfl), src2, hw2, fun pb ts H5 bd lv am ok go uu lo src5 kb5 => ⟨(by show 2 ≤ sizeLine; decide), fun p hp => ?_⟩⟩
        have s7 := same_new (o := .tup [.str "joined", .ref pb]) hp
        obtain ⟨ps, sq1, tr1⟩ := bd.mv (KpT.of_same s7)
        refine q p (.joined ts) _ (.joined upd_same sq1 tr1) ⟨?_, ?_, ?_, nj _, UsT.mk ⟨fun z h => (List.not_mem_nil h).elim, fun z h => noS h, fun z h => noS h, trivial⟩ (uu.app UsB.nil), fun _ => by rw [loT, lo (by decide)]⟩ (src5.same s7) ((kb2.trans kb5).trans (KeepBut.of_same s7))
        · rw [lvT]
          omega
        · rw [amT]
          omega
        · rw [okT, ok, go rfl]
          rfl
      · refine ⟨_, rfl, rfl, _, rfl, ?_⟩
        refine ⟨_, rfl, rfl, _, rfl, ?_⟩
        have hw2' := hw2
        obtain ⟨nm, gl, rm, g1, g2, g3, g4, l1, l2, l3, l4, l5, l6, nz, ng, nr, gz⟩ := hw2'
        refine ⟨_, rfl, rfl, _, rfl, ?_⟩
        refine ⟨_, rfl, _, rfl, wl, _, _, _, rfl, rfl, SqL.of g1, atI_nat (j := 0) rfl, a, nm, zs, rfl, src2, g2, l2, nz, fun o1 H3 ho1 src3 kb3 => ⟨(by show 2 ≤ sizeLine; decide), fun p hp => ?_⟩⟩
        have s7 := same_new (o := .tup [.str "return", .str o1]) hp
        refine q p (.one 6 ["return", o1] ("return " ++ o1)) _ (.one upd_same (.ret ho1.1)) ⟨?_, ?_, ?_, nj _, UsT.mk ⟨all1 ho1.2, fun z h => noS h, fun z h => noS h, .ret ho1.1⟩ UsB.nil, fun _ => by rw [loT]; rfl⟩ (src3.same s7) ((kb2.trans kb3).trans (KeepBut.of_same s7))
        · rw [lvT]
          omega
        · rw [amT]
          exact cp
        · rw [okT]
    · refine ⟨_, rfl, rfl, _, rfl, ?_⟩
      have w' : way = 7 ∨ way = 8 ∨ way = 9 := by omega
      have nj : ∀ x : Tr, ("loop" : Str) = "joined" → goT x = true := fun x e => absurd e (by decide)
      rcases w' with rfl | rfl | rfl
      · refine ⟨_, rfl, rfl, _, rfl, ?_⟩
        refine ⟨_, rfl, _, rfl, _, rfl, _, _, rfl, rfl, a, wl, d - 1, "loop", m, zs, gs, rs, rfl, by omega, rfl, .inr (.inl rfl), src2, hw2, fun pb ts H5 bd lv am ok go uu lo src5 kb5 => ⟨(by show 2 ≤ sizeLine; decide), fun p hp => ?_⟩⟩
        have s7 := same_new (o := .tup [.str "loop", .ref pb]) hp
        obtain ⟨ps, sq1, tr1⟩ := bd.mv (KpT.of_same s7)
        refine q p (.loop ts) _ (.loop upd_same sq1 tr1) ⟨?_, ?_, ?_, nj _, UsT.mk ⟨fun z h => (List.not_mem_nil h).elim, fun z h => noS h, fun z h => noS h, trivial⟩ (uu.app UsB.nil), fun _ => by rw [loT]⟩ (src5.same s7) ((kb2.trans kb5).trans (KeepBut.of_same s7))
        · rw [lvT]
          omega
        · rw [amT]
          omega
        · rw [okT, ok]
      · refine ⟨_, rfl, rfl, _, rfl, ?_⟩
        refine ⟨_, rfl, rfl, _, rfl, ?_⟩
        refine ⟨_, rfl, _, rfl, _, rfl, _, _, rfl, rfl, a, wl, d - 1, "joined", m, zs, gs, rs, rfl, by omega, rfl, .inr (.inr rfl), src2, hw2, fun pb ts H5 bd lv am ok go uu lo src5 kb5 => ⟨(by show 2 ≤ sizeLine; decide), fun p hp => ?_⟩⟩
        have s7 := same_new (o := .tup [.str "joined", .ref pb]) hp
        obtain ⟨ps, sq1, tr1⟩ := bd.mv (KpT.of_same s7)
        refine q p (.joined ts) _ (.joined upd_same sq1 tr1) ⟨?_, ?_, ?_, nj _, UsT.mk ⟨fun z h => (List.not_mem_nil h).elim, fun z h => noS h, fun z h => noS h, trivial⟩ (uu.app UsB.nil), fun _ => by rw [loT, lo (by decide)]⟩ (src5.same s7) ((kb2.trans kb5).trans (KeepBut.of_same s7))
        · rw [lvT]
          omega
        · rw [amT]
          omega
        · rw [okT, ok, go rfl]
          rfl
      · refine ⟨_, rfl, rfl, _, rfl, ?_⟩
        refine ⟨_, rfl, rfl, _, rfl, ?_⟩
        refine ⟨_, rfl, rfl, _, rfl, (by show 1 ≤ sizeLine; decide), fun p hp => ?_⟩
        have s7 := same_new (o := .tup [.str "leave"]) hp
        refine q p (.one 5 ["leave"] "leave") _ (.one upd_same .leave) ⟨?_, ?_, ?_, nj _, UsT.mk ⟨fun z h => (List.not_mem_nil h).elim, fun z h => noS h, fun z h => noS h, .leave⟩ UsB.nil, fun e => absurd rfl e⟩ (src2.same s7) (kb2.trans (KeepBut.of_same s7))
        · rw [lvT]
          omega
        · rw [amT]
          exact cp
        · rw [okT]
theorem bdy_step (T : Txt K mg A) (n : Nat) (ih : FnOk P w K mg base CX0 (2 * n + 5) A.a_law_statement A.d_law_statement ["_law_source_here", "_law_world", "_law_deep", "_law_sort"] (spStm K n)) :
    FnOk P w K mg base CX0 (2 * (n + 1) + 4) A.a_law_body A.d_law_body ["_law_source_here", "_law_world", "_law_deep", "_law_sort"] (spBdy K (n + 1)) := by
  have nd := sc_law_body.nd
  refine T.f_law_body.ok sc_law_body (fun vs H Q E h => ?_) (fun cdv A' outer s H vs Q E hr h => ?_)
  · obtain ⟨a, wl, d, sort, m, zs, gs, rs, rfl, _⟩ := h
    rfl
  · obtain ⟨a, wl, d, sort, m, zs, gs, rs, rfl, hd, hm, hs, src, hw, q⟩ := h
    cases hm
    refine ⟨_, (pss_one (ps_ret (pe_callTy call_tuple_of (by rfl) T.b_tuple (by decide +kernel) (pa_cons (pe_lc (own := [("_law_turn", 4)]) (g := gName 4) (tt := tYes) rfl nd (pi_range1 (by rfl) T.b_range (pa_cons (pe_call (ok_law_take T) (hr.mono (by omega)) (by rfl) T.m_law_take T.k_law_take T.v_law_take .nil pass0 (pa_cons (pv 0) (pa_cons pe_int pa_nil))) pa_nil)) (blkOk_by (N := nm_law_body) (sc := defScope st_law_body) (by decide +kernel)) (fun _ _ _ _ _ => (pg_name (i := 4) nd rfl (Or.inl rfl))) (fun _ _ _ _ _ => pts_nil) (fun _ _ _ _ _ => (pe_call ih (hr.mono (by omega)) (by rfl) T.m_law_statement T.k_law_statement T.v_law_statement .nil pass0 (pa_cons (pv 0) (pa_cons (pv 1) (pa_cons (pv 2) (pa_cons (pv 3) pa_nil))))))) pa_nil)))), ?_⟩
    refine ⟨_, rfl, a, _, rfl, src, by decide, by decide, fun many H2 m0 m1 src2 kb2 => ?_⟩
    obtain ⟨mm, rfl⟩ : ∃ mm : Nat, many = (mm : Int) := ⟨many.toNat, by omega⟩
    have hw2 := hw.mv src kb2
    refine ⟨_, rfl, by omega, by omega, fun D hD => ?_⟩
    have nDa : D ≠ a := src2.fresh hD
    refine lc_it (walk_range (lo := 0) (n := mm)) (fun i H6 => KeepBut a H2 H6 ∧ Src H6 a ∧ ∃ (qs : List Addr) (ts : List Tr), ts.length = i ∧ H6 D = some (.lst (qs.map V.ref)) ∧ TrsAt K H6 qs ts ∧ ∀ t ∈ ts, Drawn zs gs rs t (n + 1) (cap n) sort) ⟨KeepBut.of_same (same_new hD), src2.same (same_new hD), [], [], rfl, upd_same, .nil, fun _ h => (List.not_mem_nil h).elim⟩ (fun _ _ _ _ => trivial) ?_ ?_
    · rintro i x H5 H6 hi ⟨kb, s6, qs, ts, lt, hd6, tr, dr⟩ ⟨rfl, rfl⟩
      refine ⟨rfl, _, rfl, _, rfl, _, rfl, _, rfl, a, wl, d, sort, zs, gs, rs, rfl, hd, hs, s6, hw2.mv src2 kb, fun p t H7 trt dt s7 kb7 => ?_⟩
      have hd7 := kb7 _ _ nDa hd6
      have ll := tr.len
      refine ⟨_, hd7, ?_, ?_, s7.upd nDa, qs ++ [p], ts ++ [t], ?_, ?_, ?_, ?_⟩
      · rw [List.length_map]
        exact lt5000 (by omega)
      · intro b o nb e
        rw [upd_ne (ne_of_none e hD)]
        exact kb7 _ _ nb (kb _ _ nb e)
      · rw [List.length_append, lt]
        rfl
      · rw [upd_same, List.map_append]
        rfl
      · have k2 := KpT.lst hd7 (KeepBut.upd D H7 (.lst (qs.map V.ref ++ [.ref p])))
        exact ((tr.mv (s6.kp kb7)).mv k2).app (.cons (trt.mv k2) .nil)
      · intro u hu
        rcases List.mem_append.mp hu with hu | hu
        · exact dr u hu
        · rw [List.mem_singleton.mp hu]
          exact dt
    · rintro H6 ⟨kb, s6, qs, ts, lt, hd6, tr, dr⟩
      refine ⟨D, _, rfl, .inl ⟨SqL.of hd6, fun pb hp => ?_⟩⟩
      have s7 := same_new (o := .tup (qs.map V.ref)) hp
      have am := amB_cap (fun t ht => (dr t ht).am)
      refine q pb ts _ ⟨qs, SqT.of upd_same, tr.mv (KpT.of_same s7)⟩ (lvB_cap fun t ht => (dr t ht).lv) ?_ ?_ (fun e => ?_) (UsB.of fun t ht => (dr t ht).us) (fun e => loB_all fun t ht => (dr t ht).lo e) (s6.same s7) ((kb2.trans kb).trans (KeepBut.of_same s7))
      · have : ts.length ≤ 3 := by omega
        exact Nat.le_trans am (Nat.mul_le_mul_right _ this)
      · rw [okB_all]
        exact List.all_eq_true.mpr fun t ht => (dr t ht).ok
      · rw [goB_all]
        exact List.all_eq_true.mpr fun t ht => (dr t ht).go e
theorem bdy_vac : FnOk P w K mg base CX0 (2 * 0 + 4) A.a_law_body A.d_law_body ["_law_source_here", "_law_world", "_law_deep", "_law_sort"] (spBdy K 0) := FnOk.vac fun vs H Q E h => by
  obtain ⟨a, wl, d, sort, m, zs, gs, rs, _, _, h, _⟩ := h
  omega
theorem ok_law_statement_n (T : Txt K mg A) : ∀ n : Nat, FnOk P w K mg base CX0 (2 * n + 5) A.a_law_statement A.d_law_statement ["_law_source_here", "_law_world", "_law_deep", "_law_sort"] (spStm K n)
  | 0 => stm_step T 0 bdy_vac
  | n + 1 => stm_step T (n + 1) (bdy_step T n (ok_law_statement_n T n))
theorem ok_law_statement (T : Txt K mg A) : FnOk P w K mg base CX0 9 A.a_law_statement A.d_law_statement ["_law_source_here", "_law_world", "_law_deep", "_law_sort"] (spStm K 2) := ok_law_statement_n T 2
end
end K07
set_option Elab.async false
set_option linter.all false
set_option maxRecDepth 100000
set_option maxHeartbeats 4000000
namespace K07
open PySem PySem.Spec PyProof.Rows L2 Mo
section
variable {w : World} {K : PySem.W.Frag} {mg : Str → Option Value} {base : Heap} {A : Ads}
def spFit (K : PySem.W.Frag) : Sp := fun vs H Q _ => ∃ (l : Addr) (mo pc : Int) (ps : List Addr) (ts : List Tr), vs = [.ref l, .int mo, .int pc] ∧ 0 ≤ mo ∧ 0 ≤ pc ∧ H l = some (.lst (ps.map V.ref)) ∧ TrsAt K H ps ts ∧ ts.length ≤ 7 ∧ (∀ t ∈ ts, lvT t ≤ 3 ∧ amT t ≤ 43) ∧
  ∀ (pb : Addr) (us : List Tr) (H' : Hp), BodyAt K H' pb us → ((amB us : Nat) : Int) ≤ mo → ((pcB us : Nat) : Int) ≤ pc → us.length ≤ 7 → (∀ t ∈ us, t ∈ ts) → Same H H' → Q (.ref pb) H'
theorem ok_law_fitting (T : Txt K mg A) : FnOk P w K mg base CX0 11 A.a_law_fitting A.d_law_fitting ["_law_trees", "_law_most", "_law_paces_here"] (spFit K) := by
  have nd := sc_law_fitting.nd
  refine T.f_law_fitting.ok sc_law_fitting (fun vs H Q E h => ?_) (fun cdv A' outer s H vs Q E hr h => ?_)
  · obtain ⟨l, mo, pc, ps, ts, rfl, _⟩ := h
    rfl
  · obtain ⟨l, mo, pc, ps, ts, rfl, hmo, hpc, hl, tr, lt, bd, q⟩ := h
    have ltr := tr.len
    refine ⟨_, (pss_cons (ps_set (i := 3) nd rfl (Or.inl rfl) (pe_lst pa_nil))
      (pss_cons (ps_for PassesOwn.never rfl (pi_list (pv 0)) (pg_name (i := 4) nd rfl (Or.inl rfl)) (pss_one (ps_if (PW.pt (pw_and (pt_cmpR op_le (pe_call (ok_law_size T 8) (hr.mono (by decide)) (by rfl) T.m_law_size T.k_law_size T.v_law_size .nil pass0 (pa_cons (pe_op op_cat (pv 3) (pe_lst (pa_cons (pv 4) pa_nil))) pa_nil)) (pv 1) (nomark _)) (pw_and1 (pt_cmpR op_le (pe_call (ok_law_paces T 8) (hr.mono (by decide)) (by rfl) T.m_law_paces T.k_law_paces T.v_law_paces .nil pass0 (pa_cons (pe_op op_cat (pv 3) (pe_lst (pa_cons (pv 4) pa_nil))) pa_nil)) (pv 2) (nomark _))))) (pss_one (ps_expr (pe_bm PySem.F.plainAttrs_list PySem.F.slot_list_append PySem.F.type_list_append mt_append (pv 3) (pa_cons (pv 4) pa_nil)))) pss_nil)))
      (pss_one (ps_ret (pe_callTy call_tuple_of (by rfl) T.b_tuple (by decide +kernel) (pa_cons (pv 3) pa_nil)))))), ?_⟩
    refine ⟨Nat.zero_le _, fun f nf => ?_⟩
    have s0 := same_new (o := .lst []) nf
    refine ⟨_, rfl, l, rfl, ⟨_, SqL.of (s0 _ _ hl)⟩, for_it (walk_list (K := K) (a := l) (xs := ps.map V.ref)) (fun i σ H2 => Same H H2 ∧ ∃ (v4 : Option V) (qs : List Addr) (us : List Tr), σ = [some (.ref l), some (.int mo), some (.int pc), some (.ref f), v4] ∧ H2 f = some (.lst (qs.map V.ref)) ∧ TrsAt K H2 qs us ∧ ((amB us : Nat) : Int) ≤ mo ∧ ((pcB us : Nat) : Int) ≤ pc ∧ us.length ≤ i ∧ ∀ t ∈ us, t ∈ ts) ⟨s0, none, [], [], rfl, upd_same, .nil, by rw [amB_nil]; exact hmo, by rw [pcB_nil]; exact hpc, Nat.le_refl _, fun _ h => (List.not_mem_nil h).elim⟩ (fun i σ H2 _ h => SqL.of (h.1 _ _ hl)) ?_ ?_⟩
    · rintro i x σ H1 H2 hi ⟨s2, v4, qs, us, rfl, hf, tru, amu, pcu, lu, mu⟩ ⟨rfl, hx⟩
      rw [List.getElem?_map] at hx
      obtain ⟨p, hp, rfl⟩ := Option.map_eq_some_iff.mp hx
      obtain ⟨t, ht, trp⟩ := tr.get hp
      have tm := List.mem_of_getElem? ht
      have il := (List.getElem?_eq_some_iff.mp ht).1
      have luq := tru.len
      have bm : ∀ u ∈ us ++ [t], u ∈ ts := by
        intro u hu
        rcases List.mem_append.mp hu with hu | hu
        · exact mu u hu
        · rw [List.mem_singleton.mp hu]
          exact tm
      have lv1 : lvB (us ++ [t]) ≤ 3 := lvB_cap fun u hu => (bd u (bm u hu)).1
      have am1 : amB (us ++ [t]) ≤ (us ++ [t]).length * 43 := amB_cap fun u hu => (bd u (bm u hu)).2
      rw [List.length_append] at am1
      have am2 : amB (us ++ [t]) ≤ 1000 := by
        have : us.length + [t].length ≤ 8 := by
          show us.length + 1 ≤ 8
          omega
        exact Nat.le_trans am1 (Nat.le_trans (Nat.mul_le_mul_right 43 this) (by decide))
      have lq : (qs.map V.ref).length + [V.ref p].length ≤ sizeLine := by
        rw [List.length_map]
        exact len5000 (by show qs.length + 1 ≤ 5000; omega)
      -- the list with the next one
      have sz : ∀ (H3 : Hp), Same H2 H3 → ∀ (q1 : Addr), H3 q1 = none → ∀ q2, (upd H3 q1 (.lst [.ref p])) q2 = none → TrsAt K (upd (upd H3 q1 (.lst [.ref p])) q2 (.lst (qs.map V.ref ++ [.ref p]))) (qs ++ [p]) (us ++ [t]) ∧ Same H2 (upd (upd H3 q1 (.lst [.ref p])) q2 (.lst (qs.map V.ref ++ [.ref p]))) := by
        intro H3 s3 q1 n1 q2 n2
        have s5 := (s3.trans (same_new (o := .lst [.ref p]) n1)).trans (same_new (o := .lst (qs.map V.ref ++ [.ref p])) n2)
        exact ⟨(tru.mv (KpT.of_same s5)).app (.cons ((trp.mv (KpT.of_same s2)).mv (KpT.of_same s5)) .nil), s5⟩
      have mapq : qs.map V.ref ++ [V.ref p] = (qs ++ [p]).map V.ref := by rw [List.map_append]; rfl
      refine ⟨_, rfl, _, rfl, (by show 1 ≤ sizeLine; decide), fun q1 n1 => ⟨f, q1, _, _, rfl, rfl, same_new n1 _ _ hf, upd_same, lq, fun q2 n2 => ?_⟩⟩
      obtain ⟨tr5, s5⟩ := sz H2 (Same.refl _) q1 n1 q2 n2
      refine ⟨q2, qs ++ [p], us ++ [t], rfl, .inl (SqL.of (by rw [upd_same, mapq])), tr5, by omega, am2, fun H6 s6 => ?_⟩
      have s26 := s5.trans s6
      refine ⟨_, rfl, _, _, rfl, rfl, _, rfl, ?_⟩
      refine ite2 (fun hle => ?_) (fun hle => ?_)
      rotate_left
      · exact ⟨s2.trans s26, _, qs, us, rfl, s26 _ _ hf, tru.mv (KpT.of_same s26), amu, pcu, by omega, mu⟩
      have hle : decide (((amB (us ++ [t]) : Nat) : Int) ≤ mo) = true := hle
      have hle := of_decide_eq_true hle
      refine ⟨_, rfl, _, rfl, (by show 1 ≤ sizeLine; decide), fun q3 n3 => ⟨f, q3, _, _, rfl, rfl, same_new n3 _ _ (s26 _ _ hf), upd_same, lq, fun q4 n4 => ?_⟩⟩
      obtain ⟨tr7, s7⟩ := sz H6 s26 q3 n3 q4 n4
      refine ⟨q4, qs ++ [p], us ++ [t], rfl, .inl (SqL.of (by rw [upd_same, mapq])), tr7, by omega, am2, fun H8 s8 => ?_⟩
      have s28 := s7.trans s8
      refine ⟨_, rfl, _, _, rfl, rfl, _, rfl, ?_⟩
      refine ite2 (fun hpl => ?_) (fun _ => ?_)
      rotate_left
      · exact ⟨s2.trans s28, _, qs, us, rfl, s28 _ _ hf, tru.mv (KpT.of_same s28), amu, pcu, by omega, mu⟩
      have hpl : decide (((pcB (us ++ [t]) : Nat) : Int) ≤ pc) = true := hpl
      have hpl := of_decide_eq_true hpl
      have hf8 := s28 _ _ hf
      have k9 := KpT.lst hf8 (KeepBut.upd f H8 (.lst (qs.map V.ref ++ [.ref p])))
      refine ⟨_, rfl, Or.inl ⟨rfl, _, SqL.of hf8⟩, _, rfl, f, _, _, rfl, rfl, hf8, ?_, ?_⟩
      · rw [List.length_map]
        exact lt5000 (by omega)
      · refine ⟨fun b o e => ?_, _, qs ++ [p], us ++ [t], rfl, by rw [upd_same, mapq], (tr7.mv (KpT.of_same s8)).mv k9, hle, hpl, ?_, bm⟩
        · rw [upd_ne (ne_of_none e nf)]
          exact s28 _ _ (s2 _ _ e)
        · rw [List.length_append]
          show us.length + 1 ≤ i + 1
          omega
    · rintro σ H2 ⟨s2, v4, qs, us, rfl, hf, tru, amu, pcu, lu, mu⟩
      rw [List.length_map] at lu
      refine ⟨_, rfl, f, _, rfl, .inl ⟨SqL.of hf, fun pb hp => ?_⟩⟩
      have s3 := same_new (o := .tup (qs.map V.ref)) hp
      exact q pb us _ ⟨qs, SqT.of upd_same, tru.mv (KpT.of_same s3)⟩ amu pcu (by omega) mu (s2.trans s3)
end
end K07
set_option Elab.async false
set_option linter.all false
set_option maxRecDepth 100000
set_option maxHeartbeats 4000000
namespace K07
open PySem PySem.Spec PyProof.Rows L2 Mo
theorem cut_mid (ws : List Str) (i j : Nat) (hi : i ≤ ws.length) (hj : j ≤ ws.length) : cutV (ws.map V.str) (some (i : Int)) (some (j : Int)) = ((ws.drop i).take (j - i)).map V.str := by
  have e : ∀ k : Nat, k ≤ ws.length → ∀ d, HT.sIx (ws.map V.str).length d (some (k : Int)) = k := by
    intro k hk d
    show (if (k : Int) < 0 then ((k : Int) + ((ws.map V.str).length : Int)).toNat else min (k : Int).toNat (ws.map V.str).length) = _
    rw [if_neg (by omega), List.length_map]
    omega
  unfold cutV
  rw [e i hi, e j hj, List.map_take, List.map_drop]
structure NmG (zs gs rs : List Str) : Prop where
  nd : (zs ++ gs).Nodup
  z2 : zs.length ≤ 2
  g3 : gs.length ≤ 3
  r3 : rs.length ≤ 3
  nm : ∀ z ∈ zs ++ gs, NameT z
structure ClG (zs gs rs : List Str) (ts : List Tr) : Prop where
  lv : lvB ts ≤ 5
  am : amB ts ≤ 40
  pc : pcB ts ≤ 12
  lo : loB ts = false
  ok : okB ts = true
  us : UsB (zs ++ gs) gs rs ts
section
variable {w : World} {K : PySem.W.Frag} {mg : Str → Option Value} {base : Heap} {A : Ads}
theorem ite_join {c : Prop} [Decidable c] {a : Prop} {P : Hp → Prop} {U : Hp} (R : Hp → Prop) (h1 : c → (∀ U', R U' → P U') → a) (h2 : R U) (h : ∀ U', R U' → P U') : if c then a else P U := by
  split
  · rename_i hc
    exact h1 hc h
  · exact h U h2
/-- a call as the law draws it: its name, its tags, its trees -/
def DatAt (K : PySem.W.Frag) (H : Hp) (l : Addr) (z : Str) (zs : List Str) (ts : List Tr) : Prop := ∃ pt pb, H l = some (.lst [.str z, .ref pt, .ref pb]) ∧ NameT z ∧ TX H pt (zs.map V.str) ∧ BodyAt K H pb ts
def spCallD (K : PySem.W.Frag) : Sp := fun vs H Q _ => ∃ (a : Addr), vs = [.ref a, .int 40, .int 12] ∧ Src H a ∧
  ∀ (l : Addr) (z : Str) (zs gs rs : List Str) (ts : List Tr) (H' : Hp), DatAt K H' l z zs ts → NmG zs gs rs → ClG zs gs rs ts → Src H' a → KeepBut a H H' → Q (.ref l) H'
theorem ok_law_call (T : Txt K mg A) : FnOk P w K mg base CX0 13 A.a_law_call A.d_law_call ["_law_source_here", "_law_most", "_law_paces_here"] (spCallD K) := by
  have nd := sc_law_call.nd
  refine T.f_law_call.ok sc_law_call (fun vs H Q E h => ?_) (fun cdv A' outer s H vs Q E hr h => ?_)
  · obtain ⟨a, rfl, _⟩ := h
    rfl
  · obtain ⟨a, rfl, src, q⟩ := h
    refine ⟨_, (pss_cons (ps_set (i := 3) nd rfl (Or.inl rfl) (pe_call (ok_law_words T) (hr.mono (by decide)) (by rfl) T.m_law_words T.k_law_words T.v_law_words .nil pass0 (pa_cons (pv 0) (pa_cons pe_int pa_nil))))
      (pss_cons (ps_par (i := 4) (j := 5) rfl nd rfl rfl (by decide) rfl rfl (pa_cons (pe_callTy call_tuple_ofX (by rfl) T.b_tuple (by decide +kernel) (pa_cons (pe_slice sl_list (pv 3) po_none (po_some (pe_call (ok_law_take T) (hr.mono (by decide)) (by rfl) T.m_law_take T.k_law_take T.v_law_take .nil pass0 (pa_cons (pv 0) (pa_cons pe_int pa_nil))))) pa_nil)) (pa_cons (pe_slice sl_list (pv 3) (po_some pe_int) (po_some (pe_op op_add pe_int (pe_call (ok_law_take T) (hr.mono (by decide)) (by rfl) T.m_law_take T.k_law_take T.v_law_take .nil pass0 (pa_cons (pv 0) (pa_cons pe_int pa_nil)))))) pa_nil)) (by rfl))
      (pss_cons (ps_set (i := 6) nd rfl (Or.inl rfl) (pe_call (ok_law_words T) (hr.mono (by decide)) (by rfl) T.m_law_words T.k_law_words T.v_law_words .nil pass0 (pa_cons (pv 0) (pa_cons (pe_op op_add pe_int (pe_call (ok_law_take T) (hr.mono (by decide)) (by rfl) T.m_law_take T.k_law_take T.v_law_take .nil pass0 (pa_cons (pv 0) (pa_cons pe_int pa_nil)))) pa_nil))))
      (pss_cons (ps_set (i := 7) nd rfl (Or.inr rfl) (pe_lst (pa_cons (pe_op op_cat (pe_callTy call_list_of (by rfl) T.b_list (by decide +kernel) (pa_cons (pv 4) pa_nil)) (pv 5)) (pa_cons (pv 5) (pa_cons (pv 6) pa_nil)))))
      (pss_cons (ps_setLc (i := 8) (own := [("_law_turn", 10)]) (g := gName 10) (tt := tYes) rfl nd rfl rfl (sw_true rfl rfl rfl (by decide +kernel)) (pi_range1 (by rfl) T.b_range (pa_cons (pe_op op_add pe_int (pe_call (ok_law_take T) (hr.mono (by decide)) (by rfl) T.m_law_take T.k_law_take T.v_law_take .nil pass0 (pa_cons (pv 0) (pa_cons pe_int pa_nil)))) pa_nil)) (blkOk_by (N := nm_law_call) (sc := defScope st_law_call) (by decide +kernel)) (fun _ _ _ _ _ => (pg_name (i := 10) nd rfl (Or.inl rfl))) (fun _ _ _ _ _ => pts_nil) (fun _ _ _ _ _ => (pe_call (ok_law_statement T) (hr.mono (by decide)) (by rfl) T.m_law_statement T.k_law_statement T.v_law_statement .nil pass0 (pa_cons (pv 0) (pa_cons (pv 7) (pa_cons pe_int (pa_cons pe_str pa_nil)))))))
      (pss_cons (ps_if (pt_cmpR op_eq (pe_call (ok_law_take T) (hr.mono (by decide)) (by rfl) T.m_law_take T.k_law_take T.v_law_take .nil pass0 (pa_cons (pv 0) (pa_cons pe_int pa_nil))) pe_int (nomark _)) (pss_one (ps_expr (pe_bm PySem.F.plainAttrs_list PySem.F.slot_list_append PySem.F.type_list_append mt_append (pv 8) (pa_cons (pe_tup (pa_cons pe_str (pa_cons (pe_call (ok_law_operM T) (hr.mono (by decide)) (by rfl) T.m_law_operand T.k_law_operand T.v_law_operand .nil pass0 (pa_cons (pv 0) (pa_cons (pe_ix ix_list (pv 7) pe_int (fun _ _ => rfl)) pa_nil))) pa_nil))) pa_nil)))) pss_nil)
      (pss_cons (ps_set (i := 9) nd rfl (Or.inl rfl) (pe_call (ok_law_fitting T) (hr.mono (by decide)) (by rfl) T.m_law_fitting T.k_law_fitting T.v_law_fitting .nil pass0 (pa_cons (pv 8) (pa_cons (pe_op op_sub (pv 1) pe_int) (pa_cons (pv 2) pa_nil)))))
      (pss_cons (ps_for PassesOwn.never rfl (pi_range1 (by rfl) T.b_range (pa_cons (pe_callB (call_max2 rfl) (by rfl) T.b_max (by decide +kernel) (pa_cons pe_int (pa_cons (pe_op op_sub (pe_call (ok_law_take T) (hr.mono (by decide)) (by rfl) T.m_law_take T.k_law_take T.v_law_take .nil pass0 (pa_cons (pv 0) (pa_cons pe_int pa_nil))) pe_int) pa_nil))) pa_nil)) (pg_name (i := 10) nd rfl (Or.inl rfl)) (pss_cons (ps_par (i := 11) (j := 12) rfl nd rfl rfl (by decide) rfl rfl (pa_cons (pe_call (ok_law_operM T) (hr.mono (by decide)) (by rfl) T.m_law_operand T.k_law_operand T.v_law_operand .nil pass0 (pa_cons (pv 0) (pa_cons (pe_ix ix_list (pv 7) pe_int (fun _ _ => rfl)) pa_nil))) (pa_cons (pe_call (ok_law_operM T) (hr.mono (by decide)) (by rfl) T.m_law_operand T.k_law_operand T.v_law_operand .nil pass0 (pa_cons (pv 0) (pa_cons (pe_ix ix_list (pv 7) pe_int (fun _ _ => rfl)) pa_nil))) pa_nil)) (by rfl))
      (pss_cons (ps_set (i := 13) nd rfl (Or.inl rfl) (pe_call (ok_law_take T) (hr.mono (by decide)) (by rfl) T.m_law_take T.k_law_take T.v_law_take .nil pass0 (pa_cons (pv 0) (pa_cons pe_int pa_nil))))
      (pss_one (ps_set (i := 9) nd rfl (Or.inl rfl) (pe_tup (pa_cons (pe_ifExp (pt_cmpR op_eq (pv 13) pe_int (nomark _)) (pe_tup (pa_cons pe_str (pa_cons (pv 11) (pa_cons (pv 12) (pa_cons (pe_tup pa_nil) (pa_cons (pv 9) pa_nil)))))) (pe_tup (pa_cons pe_str (pa_cons (pv 11) (pa_cons (pv 11) (pa_cons (pv 9) (pa_cons (pe_tup pa_nil) pa_nil))))))) pa_nil)))))))
      (pss_one (ps_ret (pe_lst (pa_cons (pe_call (ok_law_word T) (hr.mono (by decide)) (by rfl) T.m_law_word T.k_law_word T.v_law_word .nil pass0 (pa_cons (pv 0) pa_nil)) (pa_cons (pv 4) (pa_cons (pv 9) pa_nil)))))))))))))), ?_⟩
    refine ⟨_, rfl, a, 7, rfl, src, by decide, by decide, fun pw ws H1 np hw lw nw dw src1 kb1 => ?_⟩
    have w7 : ws.length = 7 := by omega
    have npa : pw ≠ a := src.fresh np
    refine ⟨_, rfl, _, rfl, a, _, rfl, src1, by decide, by decide, fun d1 H2 d10 d13 src2 kb2 => ?_⟩
    obtain ⟨n1, rfl⟩ : ∃ n : Nat, d1 = (n : Int) := ⟨d1.toNat, by omega⟩
    have hw2 := kb2 _ _ npa hw
    refine ⟨_, rfl, pw, _, rfl, SqL.of hw2, fun c1 nc1 => ?_⟩
    have sc1 := same_new (o := .lst (cutV (ws.map V.str) none (some (n1 : Int)))) nc1
    refine ⟨c1, _, rfl, SqL.of upd_same, fun pt ob hob npt => ?_⟩
    have spt := same_new (o := .frz ob (.tup (cutV (ws.map V.str) none (some (n1 : Int))))) npt
    have s12 := sc1.trans spt
    have src3 := src2.same s12
    refine ⟨_, rfl, _, rfl, _, rfl, a, _, rfl, src3, by decide, by decide, fun d2 H3 d20 d23 src4 kb3 => ?_⟩
    obtain ⟨n2, rfl⟩ : ∃ n : Nat, d2 = (n : Int) := ⟨d2.toNat, by omega⟩
    have hw3 := kb3 _ _ npa (s12 _ _ hw2)
    refine ⟨_, _, rfl, rfl, _, rfl, pw, _, rfl, SqL.of hw3, fun gl ngl => ⟨_, _, rfl, ?_⟩⟩
    have e4 : (4 : Int) + ((n2 : Nat) : Int) = ((4 + n2 : Nat) : Int) := by omega
    refine abs_heap (fun U => KeepBut a H U ∧ Src U a ∧ TX U pt ((ws.take n1).map V.str) ∧ U gl = some (.lst (((ws.drop 3).take (1 + n2)).map V.str))) ⟨?_, ?_, ?_, ?_⟩ ?_
    · exact (((kb1.trans kb2).trans (KeepBut.of_same s12)).trans kb3).trans (KeepBut.of_same (same_new ngl))
    · exact src4.same (same_new ngl)
    · rw [← cut_to ws n1 (by omega)]
      have npt2 : pt ≠ a := (src2.same sc1).fresh npt
      exact ⟨ob, hob, same_new ngl _ _ (kb3 _ _ npt2 upd_same)⟩
    · rw [upd_same, show (4 : Int) + ((n2 : Nat) : Int) = ((4 + n2 : Nat) : Int) by omega, show (some (3 : Int)) = some ((3 : Nat) : Int) from rfl, cut_mid ws 3 (4 + n2) (by omega) (by omega)]
      rw [show 4 + n2 - 3 = 1 + n2 by omega]
    rintro H4 ⟨kb4, src5, tx4, hg4⟩
    clear e4
    generalize hzs : ws.take n1 = zs at tx4
    generalize hgs : (ws.drop 3).take (1 + n2) = gs at hg4
    refine ⟨_, rfl, _, rfl, a, _, rfl, src5, by decide, by decide, fun d3 H5 d30 d33 src6 kb5 => ?_⟩
    refine ⟨_, _, rfl, rfl, a, _, rfl, src6, by omega, by omega, fun rm rs H6 nrm hrm lr nr dr src7 kb6 => ?_⟩
    have z3 : zs.length ≤ 2 := by rw [← hzs, List.length_take]; omega
    have g1 : 1 ≤ gs.length ∧ gs.length ≤ 3 := by
      rw [← hgs, List.length_take, List.length_drop]
      omega
    have nzg : (zs ++ gs).Nodup := by
      have e : (ws.take 3 ++ ws.drop 3).Nodup := by rw [List.take_append_drop]; exact dw
      refine e.sublist (List.Sublist.append ?_ ?_)
      · rw [← hzs, show ws.take n1 = (ws.take 3).take n1 by rw [List.take_take, Nat.min_eq_left (by omega)]]
        exact List.take_sublist _ _
      · rw [← hgs]
        exact List.take_sublist _ _
    have nmz : ∀ z ∈ zs ++ gs, NameT z := by
      intro z hz
      rcases List.mem_append.mp hz with hz | hz
      · rw [← hzs] at hz
        exact nw z (List.mem_of_mem_take hz)
      · rw [← hgs] at hz
        exact nw z (List.mem_of_mem_drop (List.mem_of_mem_take hz))
    have kb46 := kb5.trans kb6
    have tx6 := TXkp tx4 (src5.kp kb46)
    have hg6 : H6 gl = some (.lst (gs.map V.str)) := kb46 _ _ (ne_src src5 hg4 g1.1) hg4
    have r1 : 1 ≤ rs.length := by omega
    have r4 : rs.length ≤ 3 := by omega
    refine ⟨_, rfl, pt, _, rfl, .inr tx6.sq, fun l1 nl1 => ?_⟩
    have s1 := same_new (o := .lst (zs.map V.str)) nl1
    refine ⟨_, rfl, l1, gl, _, _, rfl, rfl, upd_same, s1 _ _ hg6, by rw [List.length_map, List.length_map]; exact len5000 (by omega), fun nm nnm => ?_⟩
    have s2 := same_new (o := .lst (zs.map V.str ++ gs.map V.str)) nnm
    refine ⟨_, rfl, _, rfl, (by show 3 ≤ sizeLine; decide), fun wl nwl => ?_⟩
    have s3 := same_new (o := .lst [.ref nm, .ref gl, .ref rm]) nwl
    have s123 := (s1.trans s2).trans s3
    refine abs_heap (fun U => KeepBut a H U ∧ Src U a ∧ TX U pt (zs.map V.str) ∧ WorldAs U wl (zs ++ gs) gs rs) ⟨?_, ?_, ?_, ?_⟩ ?_
    · exact (kb4.trans kb46).trans (KeepBut.of_same s123)
    · exact src7.same s123
    · exact TXkp tx6 (KpT.of_same s123)
    · refine ⟨nm, gl, rm, upd_same, ?_, s123 _ _ hg6, s123 _ _ hrm, ?_, ?_, g1.1, by omega, r1, by omega, nmz, fun z hz => nmz z (List.mem_append_right _ hz), nr, fun z hz => List.mem_append_right _ hz⟩
      · rw [List.map_append]
        exact s3 _ _ upd_same
      · rw [List.length_append]
        omega
      · rw [List.length_append]
        omega
    rintro H7 ⟨kb7, src8, tx7, hw7⟩
    refine ⟨_, rfl, a, _, rfl, src8, by decide, by decide, fun many H8 m0 m6 src9 kb8 => ?_⟩
    obtain ⟨mm, rfl⟩ : ∃ n : Nat, many = (n : Int) := ⟨many.toNat, by omega⟩
    have hw8 := hw7.mv src8 kb8
    refine ⟨_, _, rfl, rfl, _, rfl, by omega, by omega, fun D hD => ?_⟩
    have nDa : D ≠ a := src9.fresh hD
    refine lc_it (walk_range (lo := 0) (n := 1 + mm)) (fun i H6 => KeepBut a H8 H6 ∧ Src H6 a ∧ ∃ (qs : List Addr) (ts : List Tr), ts.length = i ∧ H6 D = some (.lst (qs.map V.ref)) ∧ TrsAt K H6 qs ts ∧ ∀ t ∈ ts, Drawn (zs ++ gs) gs rs t 3 43 "call") ⟨KeepBut.of_same (same_new hD), src9.same (same_new hD), [], [], rfl, upd_same, .nil, fun _ h => (List.not_mem_nil h).elim⟩ (fun _ _ _ _ => trivial) ?_ ?_
    · rintro i x H5 H6 hi ⟨kb, s6, qs, ts, lt, hd6, tr, dr⟩ ⟨rfl, rfl⟩
      refine ⟨rfl, _, rfl, _, rfl, a, wl, 2, "call", zs ++ gs, gs, rs, rfl, rfl, .inl rfl, s6, hw8.mv src9 kb, fun p t H7 trt dt s7 kb7 => ?_⟩
      have hd7 := kb7 _ _ nDa hd6
      have ll := tr.len
      refine ⟨_, hd7, ?_, ?_, s7.upd nDa, qs ++ [p], ts ++ [t], ?_, ?_, ?_, ?_⟩
      · rw [List.length_map]
        exact lt5000 (by omega)
      · intro b o nb e
        rw [upd_ne (ne_of_none e hD)]
        exact kb7 _ _ nb (kb _ _ nb e)
      · rw [List.length_append, lt]
        rfl
      · rw [upd_same, List.map_append]
        rfl
      · have k2 := KpT.lst hd7 (KeepBut.upd D H7 (.lst (qs.map V.ref ++ [.ref p])))
        exact ((tr.mv (s6.kp kb7)).mv k2).app (.cons (trt.mv k2) .nil)
      · intro u hu
        rcases List.mem_append.mp hu with hu | hu
        · exact dr u hu
        · rw [List.mem_singleton.mp hu]
          exact dt
    · rintro H9 ⟨kb9, src10, qs, ts, lt, hd9, tr9, dr9⟩
      refine ⟨_, rfl, a, _, rfl, src10, by decide, by decide, fun t2 H10 t20 t22 src11 kb10 => ?_⟩
      have kb810 := kb8.trans (kb9.trans kb10)
      have hw10 := hw7.mv src8 kb810
      have hd10 : H10 D = some (.lst (qs.map V.ref)) := kb10 _ _ nDa hd9
      have tr10 := tr9.mv (src10.kp kb10)
      refine ⟨rfl, _, rfl, ite_join (fun U => KeepBut a H7 U ∧ Src U a ∧ ∃ (qs : List Addr) (ts : List Tr), U D = some (.lst (qs.map V.ref)) ∧ TrsAt K U qs ts ∧ ts.length ≤ 7 ∧ ∀ t ∈ ts, Drawn (zs ++ gs) gs rs t 3 43 "call") (fun _ rest => ?_) ⟨kb810, src11, qs, ts, hd10, tr10, by omega, dr9⟩ ?_⟩
      · have hw10' := hw10
        obtain ⟨nm, gl, rm, g1, g2, g3, g4, l1, l2, l3, l4, l5, l6, nz, ng, nr, gz⟩ := hw10'
        refine ⟨_, rfl, .inl ⟨rfl, _, SqL.of hd10⟩, _, rfl, _, rfl, wl, _, _, _, rfl, rfl, SqL.of g1, atI_nat (j := 0) rfl, a, nm, zs ++ gs, rfl, src11, g2, l2, nz, fun o1 H11 ho1 src12 kb11 => ⟨(by show 2 ≤ sizeLine; decide), fun p hp => ?_⟩⟩
        have sp := same_new (o := .tup [.str "return", .str o1]) hp
        have hd11 := sp _ _ (kb11 _ _ nDa hd10)
        have ll := tr10.len
        refine ⟨D, _, _, rfl, rfl, hd11, by rw [List.length_map]; exact lt5000 (by omega), rest _ ⟨?_, (src12.same sp).upd nDa, qs ++ [p], ts ++ [.one 6 ["return", o1] ("return " ++ o1)], ?_, ?_, ?_, ?_⟩⟩
        · intro b o nb e
          have nbD : b ≠ D := by
            intro z
            subst z
            have z := kb8 _ _ nb e
            rw [hD] at z
            cases z
          rw [upd_ne nbD]
          exact sp _ _ (kb11 _ _ nb (kb810 _ _ nb e))
        · rw [upd_same, List.map_append]
          rfl
        · have k2 := KpT.lst hd11 (KeepBut.upd D _ (.lst (qs.map V.ref ++ [.ref p])))
          have trp : TrAt K (upd H11 p (.tup [.str "return", .str o1])) p (.one 6 ["return", o1] ("return " ++ o1)) := .one upd_same (.ret ho1.1)
          exact (((tr10.mv (src11.kp kb11)).mv (KpT.of_same sp)).mv k2).app (.cons (trp.mv k2) .nil)
        · rw [List.length_append]
          show ts.length + 1 ≤ 7
          omega
        · intro u hu
          rcases List.mem_append.mp hu with hu | hu
          · exact dr9 u hu
          · rw [List.mem_singleton.mp hu]
            refine ⟨?_, ?_, ?_, fun e => absurd e (by decide), UsT.mk ⟨all1 ho1.2, fun z h => noS h, fun z h => noS h, .ret ho1.1⟩ UsB.nil, fun _ => by rw [loT]; rfl⟩
            · rw [lvT]
              decide
            · rw [amT]
              decide
            · rw [okT]
      rintro H11 ⟨kb11, src12, qs', ts', hd11, tr11, l11, dr11⟩
      refine ⟨_, rfl, _, rfl, _, _, rfl, rfl, _, rfl, D, 38, 12, qs', ts', rfl, by decide, by decide, hd11, tr11, l11, fun t ht => ⟨(dr11 t ht).lv, (dr11 t ht).am⟩, fun pb us H12 bd am pc l12 mem s12 => ?_⟩
      refine ⟨_, rfl, a, _, rfl, src12.same s12, by decide, by decide, fun t5 H13 t50 t55 src13 kb13 => ?_⟩
      obtain ⟨nn, n2, hn⟩ : ∃ nn : Nat, nn ≤ 2 ∧ (if t5 - 2 > 0 then t5 - 2 else 0) = (nn : Int) := by
        by_cases h : t5 - 2 > 0
        · exact ⟨(t5 - 2).toNat, by omega, by rw [if_pos h]; omega⟩
        · exact ⟨0, by omega, by rw [if_neg h]; rfl⟩
      have dus : ∀ t ∈ us, Drawn (zs ++ gs) gs rs t 3 43 "call" := fun t ht => dr11 t (mem t ht)
      have bd13 := bd.mv ((src12.same s12).kp kb13)
      have k13 := (kb11.trans (KeepBut.of_same s12)).trans kb13
      refine ⟨_, _, rfl, rfl, _, _, rfl, (nn : Int), congrArg (fun i => [V.int i]) hn, by omega, by omega, for_it (walk_range (lo := 0) (n := nn)) (fun i σ U => KeepBut a H7 U ∧ Src U a ∧ ∃ (pb : Addr) (us : List Tr) (v0 v1 v2 v3 : Option V), σ = [some (.ref a), some (.int 40), some (.int 12), some (.ref pw), some (.ref pt), some (.ref gl), some (.ref rm), some (.ref wl), some (.ref D), some (.ref pb), v0, v1, v2, v3] ∧ BodyAt K U pb us ∧ lvB us ≤ 3 + i ∧ amB us ≤ 38 + i ∧ pcB us ≤ 12 ∧ loB us = false ∧ okB us = true ∧ UsB (zs ++ gs) gs rs us)
        ⟨k13, src13, pb, us, none, none, none, none, rfl, bd13, lvB_cap fun t ht => (dus t ht).lv, by omega, by omega, loB_all fun t ht => (dus t ht).lo (by decide), by rw [okB_all]; exact List.all_eq_true.mpr fun t ht => (dus t ht).ok, UsB.of fun t ht => (dus t ht).us⟩ (fun _ _ _ _ _ => trivial) ?_ ?_⟩
      · rintro i x σ U1 U2 hi ⟨kU, srcU, pb, us, v0, v1, v2, v3, rfl, bdU, lvU, amU, pcU, loU, okU, usU⟩ ⟨rfl, rfl⟩
        have hwU := hw7.mv src8 kU
        have hwU' := hwU
        obtain ⟨nm, gl', rm', g1, g2, g3, g4, l1, l2, l3, l4, l5, l6, nz, ng, nr, gz⟩ := hwU'
        refine ⟨_, rfl, _, rfl, wl, _, _, _, rfl, rfl, SqL.of g1, atI_nat (j := 0) rfl, a, nm, zs ++ gs, rfl, srcU, g2, l2, nz, fun o1 U3 ho1 src3 kb3 => ?_⟩
        have hwV := hwU.mv srcU kb3
        obtain ⟨nm, gl', rm', g1, g2, g3, g4, l1, l2, l3, l4, l5, l6, nz, ng, nr, gz⟩ := hwV
        refine ⟨_, rfl, _, rfl, wl, _, _, _, rfl, rfl, SqL.of g1, atI_nat (j := 0) rfl, a, nm, zs ++ gs, rfl, src3, g2, l2, nz, fun o2 U4 ho2 src4 kb4 => ⟨_, _, rfl, ?_⟩⟩
        refine ⟨_, rfl, a, _, rfl, src4, by decide, by decide, fun way U5 w0 w3 src5 kb5 => ?_⟩
        have kbU := (kb3.trans kb4).trans kb5
        obtain ⟨ps, sq5, tr5⟩ := bdU.mv (srcU.kp kbU)
        have fin : ∀ (x2 x3 : Option V) (o2 : Str) (p pe p1 p2 : Addr) (b e : List Tr) (pbs pes : List Addr) (U6 : Hp), OperM (zs ++ gs) o2 → Same U5 U6 → U6 p = some (.tup [.str "if", .str o1, .str o2, .ref p1, .ref p2]) → SqT K U6 p1 (pbs.map V.ref) → SqT K U6 p2 (pes.map V.ref) → TrsAt K U6 pbs b → TrsAt K U6 pes e → (b = us ∧ e = [] ∨ b = [] ∧ e = us) → ∀ pq, U6 pq = none →
            (KeepBut a H7 (upd U6 pq (.tup [.ref p])) ∧ Src (upd U6 pq (.tup [.ref p])) a ∧ ∃ (pb : Addr) (us : List Tr) (w0 w1 w2 w3 : Option V), [some (.ref a), some (.int 40), some (.int 12), some (.ref pw), some (.ref pt), some (.ref gl), some (.ref rm), some (.ref wl), some (.ref D), some (.ref pq), some (.int (0 + (i : Nat))), some (.str o1), x2, x3] = [some (.ref a), some (.int 40), some (.int 12), some (.ref pw), some (.ref pt), some (.ref gl), some (.ref rm), some (.ref wl), some (.ref D), some (.ref pb), w0, w1, w2, w3] ∧ BodyAt K (upd U6 pq (.tup [.ref p])) pb us ∧ lvB us ≤ 3 + (i + 1) ∧ amB us ≤ 38 + (i + 1) ∧ pcB us ≤ 12 ∧ loB us = false ∧ okB us = true ∧ UsB (zs ++ gs) gs rs us) := by
          intro x2 x3 o2 p pe p1 p2 b e pbs pes U6 ho2 s6 hp hb he tb te cs pq npq
          have s7 := same_new (o := .tup [.ref p]) npq
          have trp : TrAt K (upd U6 pq (.tup [.ref p])) p (.cond o1 o2 b e) := .cond (s7 _ _ hp) ho1.1 ho2.1 ((KpT.of_same s7).sq hb) ((KpT.of_same s7).sq he) (tb.mv (KpT.of_same s7)) (te.mv (KpT.of_same s7))
          have se := s6.trans s7
          have uu : UsB (zs ++ gs) gs rs (b ++ e) := by
            rcases cs with ⟨rfl, rfl⟩ | ⟨rfl, rfl⟩
            · exact usU.app UsB.nil
            · exact UsB.nil.app usU
          refine ⟨(kU.trans kbU).trans (KeepBut.of_same se), src5.same se, pq, [.cond o1 o2 b e], _, _, _, _, rfl, ⟨[p], SqT.of upd_same, .cons trp .nil⟩, ?_, ?_, ?_, ?_, ?_, UsB.of (all1 (UsT.mk ⟨all2 ho1.2 ho2.2, fun z h => noS h, fun z h => noS h, trivial⟩ uu))⟩
          all_goals rcases cs with ⟨rfl, rfl⟩ | ⟨rfl, rfl⟩
          · rw [lvB_cons, lvB_nil, lvT, lvB_nil]
            omega
          · rw [lvB_cons, lvB_nil, lvT, lvB_nil]
            omega
          · rw [amB_cons, amB_nil, amT, amB_nil]
            omega
          · rw [amB_cons, amB_nil, amT, amB_nil]
            omega
          · rw [pcB_cons, pcB_nil, pcT, pcB_nil]
            omega
          · rw [pcB_cons, pcB_nil, pcT, pcB_nil]
            omega
          · rw [loB_cons, loB_nil, loT, loU, loB_nil]
            rfl
          · rw [loB_cons, loB_nil, loT, loU, loB_nil]
            rfl
          · rw [okB_cons, okB_nil, okT, okU, okB_nil]
            rfl
          · rw [okB_cons, okB_nil, okT, okU, okB_nil]
            rfl
        refine ⟨_, rfl, rfl, _, rfl, ?_⟩
        refine ite2 (fun _ => ?_) (fun _ => ?_)
        · refine ⟨_, rfl, _, rfl, Nat.zero_le _, fun pe hpe => ⟨_, rfl, (by show 5 ≤ sizeLine; decide), fun p hp => ⟨(by show 1 ≤ sizeLine; decide), fun pq hpq => ?_⟩⟩⟩
          have s1 := same_new (o := .tup []) hpe
          have s2 := same_new (o := .tup [.str "if", .str o1, .str o2, .ref pe, .ref pb]) hp
          have s12 := s1.trans s2
          exact fin _ _ o2 p pe pe pb [] us [] ps _ ho2 s12 upd_same (SqT.of (s2 _ _ upd_same)) ((KpT.of_same s12).sq sq5) .nil (tr5.mv (KpT.of_same s12)) (.inr ⟨rfl, rfl⟩) pq hpq
        · refine ⟨_, rfl, _, rfl, _, rfl, Nat.zero_le _, fun pe hpe => ⟨(by show 5 ≤ sizeLine; decide), fun p hp => ⟨(by show 1 ≤ sizeLine; decide), fun pq hpq => ?_⟩⟩⟩
          have s1 := same_new (o := .tup []) hpe
          have s2 := same_new (o := .tup [.str "if", .str o1, .str o1, .ref pb, .ref pe]) hp
          have s12 := s1.trans s2
          exact fin _ _ o1 p pe pb pe us [] ps [] _ ho1 s12 upd_same ((KpT.of_same s12).sq sq5) (SqT.of (s2 _ _ upd_same)) (tr5.mv (KpT.of_same s12)) .nil (.inl ⟨rfl, rfl⟩) pq hpq
      · rintro σ U ⟨kU, srcU, pb, us, v0, v1, v2, v3, rfl, bdU, lvU, amU, pcU, loU, okU, usU⟩
        refine ⟨_, rfl, a, rfl, srcU, fun z U2 nz src2 kb2 => ⟨_, rfl, _, rfl, (by show 3 ≤ sizeLine; decide), fun l hl => ?_⟩⟩
        have sl := same_new (o := .lst [.str z, .ref pt, .ref pb]) hl
        refine q l z zs gs rs us _ ⟨pt, pb, upd_same, nz, TXkp (TXkp (TXkp tx7 (src8.kp kU)) (srcU.kp kb2)) (KpT.of_same sl), (bdU.mv (srcU.kp kb2)).mv (KpT.of_same sl)⟩ ⟨nzg, z3, g1.2, r4, nmz⟩ ⟨by omega, by omega, pcU, loU, okU, usU⟩ (src2.same sl) (((kb7.trans kU).trans kb2).trans (KeepBut.of_same sl))
end
end K07
set_option Elab.async false
set_option linter.all false
set_option maxRecDepth 100000
set_option maxHeartbeats 4000000
namespace K07
open PySem PySem.Spec PyProof.Rows L2 Mo
section
variable {w : World} {K : PySem.W.Frag} {mg : Str → Option Value} {base : Heap} {A : Ads}
def spAllL (K : PySem.W.Frag) (n : Nat) : Sp := fun vs H Q _ => ∃ (a : Addr) (ps : List Addr) (ts : List Tr), vs = [.ref a] ∧ Sq K H a (ps.map V.ref) ∧ TrsAt K H ps ts ∧ lvB ts < n ∧ amB ts ≤ 1000 ∧ ∀ (l : Addr) (qs : List Addr) (H' : Hp), Same H H' → H l = none → H' l = some (.lst (qs.map V.ref)) → TrsAt K H' qs (allB ts) → Q (.ref l) H'
theorem allL_step (T : Txt K mg A) (n : Nat) (ih : FnOk P w K mg base CX0 (n + 2) A.a_law_all A.d_law_all ["_law_trees"] (spAllL K n)) :
    FnOk P w K mg base CX0 (n + 3) A.a_law_all A.d_law_all ["_law_trees"] (spAllL K (n + 1)) := by
  have nd := sc_law_all.nd
  refine T.f_law_all.ok sc_law_all (fun vs H Q E h => ?_) (fun cdv A' outer s H vs Q E hr h => ?_)
  · obtain ⟨a, ps, ts, rfl, _⟩ := h
    rfl
  · obtain ⟨a, ps, ts, rfl, hs, tr, ln, am, q⟩ := h
    refine ⟨_, (pss_cons (ps_set (i := 1) nd rfl (Or.inl rfl) (pe_lst pa_nil))
      (pss_cons (ps_for PassesOwn.never rfl (pi_seq (pv 0)) (pg_name (i := 2) nd rfl (Or.inl rfl)) (pss_cons (ps_asg (pe_call (ok_law_bodies T) (hr.mono (by omega)) (by rfl) T.m_law_bodies T.k_law_bodies T.v_law_bodies .nil pass0 (pa_cons (pv 2) pa_nil)) (pg_unl rfl (pgs_cons (pg_name (i := 3) nd rfl (Or.inl rfl)) (pgs_cons (pg_name (i := 4) nd rfl (Or.inl rfl)) pgs_nil))))
      (pss_one (ps_set (i := 1) nd rfl (Or.inl rfl) (pe_op op_cat (pe_op op_cat (pe_op op_cat (pv 1) (pe_lst (pa_cons (pv 2) pa_nil))) (pe_call ih (hr.mono (by omega)) (by rfl) T.m_law_all T.k_law_all T.v_law_all .nil pass0 (pa_cons (pv 3) pa_nil))) (pe_call ih (hr.mono (by omega)) (by rfl) T.m_law_all T.k_law_all T.v_law_all .nil pass0 (pa_cons (pv 4) pa_nil)))))))
      (pss_one (ps_ret (pv 1))))), ?_⟩
    refine ⟨Nat.zero_le _, fun f nf => ?_⟩
    have s0 := same_new (o := .lst []) nf
    refine ⟨_, rfl, a, rfl, for_seq (hs.same s0) (fun i σ H2 => Same (upd H f (.lst [])) H2 ∧ ∃ (f2 : Addr) (qs : List Addr) (v3 v4 v5 : Option V), σ = [some (.ref a), some (.ref f2), v3, v4, v5] ∧ H f2 = none ∧ H2 f2 = some (.lst (qs.map V.ref)) ∧ TrsAt K H2 qs (allB (ts.take i))) ⟨Same.refl _, f, [], _, _, _, rfl, nf, upd_same, ?_⟩ (fun i σ H2 h => h.1) ?_ ?_⟩
    · rw [List.take_zero, allB_nil]
      exact .nil
    · rintro i y σ H2 hy ⟨s2, f2, qs, v3, v4, v5, rfl, nf2, hf2, trq⟩
      rw [List.getElem?_map] at hy
      obtain ⟨p, hp, rfl⟩ := Option.map_eq_some_iff.mp hy
      obtain ⟨t, ht, trp⟩ := tr.get hp
      have hil : i < ts.length := (List.getElem?_eq_some_iff.mp ht).1
      have s02 := s0.trans s2
      have tk : allB (ts.take (i + 1)) = allB (ts.take i) ++ allT t := by
        rw [List.take_add_one, ht, allB_app]
        show _ ++ allB [t] = _
        rw [allB_cons, allB_nil, List.append_nil]
      have lt : lvT t ≤ lvB ts := lvB_mem (List.mem_of_getElem? ht)
      have at_ : amT t ≤ amB ts := amB_mem (List.mem_of_getElem? ht)
      have lte := lvT_eq t
      have ate := amT_eq t
      have tkl : (allB (ts.take i)).length ≤ 1000 := by
        have e : allB ts = allB (ts.take i) ++ allB (ts.drop i) := by rw [← allB_app, List.take_append_drop]
        have h1 := allB_len ts
        rw [e, List.length_append] at h1
        omega
      have lq := trq.len
      have il := allB_len t.inner
      have ol := allB_len t.outer
      refine ⟨_, rfl, p, t, rfl, trp.mv (KpT.of_same s02), fun l pb pe H3 s3 nl hl bb be => ?_⟩
      refine ⟨l, _, rfl, SqL.of hl, rfl, _, _, rfl, _, _, rfl, rfl, ?_⟩
      have s03 := s02.trans s3
      refine ⟨_, rfl, _, rfl, (by show 1 ≤ sizeLine; decide), fun q1 n1 => ?_⟩
      have e5 := same_new (o := .lst [.ref p]) n1
      have hf5 := e5 _ _ (s3 _ _ hf2)
      have lz : ∀ z : List Addr, (z.map V.ref).length = z.length := fun z => List.length_map ..
      refine ⟨f2, q1, _, _, rfl, rfl, hf5, upd_same, by rw [lz]; exact len5000 (by show _ + 1 ≤ 5000; omega), fun f3 m3 => ?_⟩
      have e6 := same_new (o := .lst (qs.map V.ref ++ [.ref p])) m3
      have s36 := e5.trans e6
      have s06 := s03.trans s36
      obtain ⟨pbs, sqb, trb⟩ := bb.mv (KpT.of_same s36)
      obtain ⟨pes, sqe, tre⟩ := be.mv (KpT.of_same s36)
      refine ⟨_, rfl, pb, pbs, t.inner, rfl, .inr sqb, trb, by omega, by omega, fun l7 q7 H7 s7 n7 h7 t7 => ?_⟩
      have s07 := s06.trans s7
      have l7' := t7.len
      refine ⟨f3, l7, _, _, rfl, rfl, s7 _ _ upd_same, h7, by rw [List.length_append, lz, lz]; exact len5000 (by show _ + 1 + _ ≤ 5000; omega), fun f4 m4 => ?_⟩
      have e8 := same_new (o := .lst (qs.map V.ref ++ [.ref p] ++ q7.map V.ref)) m4
      have s78 := s7.trans e8
      refine ⟨_, rfl, pe, pes, t.outer, rfl, .inr ((KpT.of_same s78).sq sqe), tre.mv (KpT.of_same s78), by omega, by omega, fun l9 q9 H9 s9 n9 h9 t9 => ?_⟩
      have l9' := t9.len
      refine ⟨f4, l9, _, _, rfl, rfl, s9 _ _ upd_same, h9, by rw [List.length_append, List.length_append, lz, lz, lz]; exact len5000 (by show _ + 1 + _ + _ ≤ 5000; omega), fun f5 m5 => ?_⟩
      have e10 := same_new (o := .lst (qs.map V.ref ++ [.ref p] ++ q7.map V.ref ++ q9.map V.ref)) m5
      have s2e : Same (upd H f (.lst [])) (upd H9 f5 (.lst (qs.map V.ref ++ [.ref p] ++ q7.map V.ref ++ q9.map V.ref))) := (((s2.trans s3).trans s36).trans s78).trans (s9.trans e10)
      have nf5 : H f5 = none := ((s07.trans e8).trans s9).free m5
      refine ⟨s2e, f5, qs ++ ([p] ++ (q7 ++ q9)), _, _, _, rfl, nf5, ?_, ?_⟩
      · rw [upd_same]
        simp
      · have ae : allT t = [t] ++ (allB t.inner ++ allB t.outer) := by rw [allT_eq, allB_app]; rfl
        rw [tk, ae]
        have kE := s2e
        have k2 := (((s3.trans s36).trans s78).trans s9).trans e10
        exact (trq.mv (KpT.of_same k2)).app (.cons (trp.mv (KpT.of_same (s0.trans s2e))) ((t7.mv (KpT.of_same ((e8.trans s9).trans e10))).app (t9.mv (KpT.of_same e10))))
    · rintro σ H2 ⟨s2, f2, qs, v3, v4, v5, rfl, nf2, hf2, trq⟩
      rw [List.take_of_length_le (by rw [List.length_map, tr.len]; exact Nat.le_refl _)] at trq
      exact ⟨_, rfl, q f2 qs H2 (s0.trans s2) nf2 hf2 trq⟩
theorem ok_law_all_n (T : Txt K mg A) : ∀ n : Nat, FnOk P w K mg base CX0 (n + 2) A.a_law_all A.d_law_all ["_law_trees"] (spAllL K n)
  | 0 => FnOk.vac fun vs H Q E h => by
    obtain ⟨a, ps, ts, _, _, _, h, _⟩ := h
    omega
  | n + 1 => allL_step T n (ok_law_all_n T n)
theorem ok_law_all (T : Txt K mg A) : FnOk P w K mg base CX0 10 A.a_law_all A.d_law_all ["_law_trees"] (spAllL K 8) := ok_law_all_n T 8
end
end K07
set_option Elab.async false
set_option linter.all false
set_option maxRecDepth 100000
set_option maxHeartbeats 4000000
namespace K07
open PySem PySem.Spec PyProof.Rows L2 Mo
theorem TrAt.cellw {K : PySem.W.Frag} {H : Hp} {p : Addr} {t : Tr} (h : TrAt K H p t) : (∃ z c xs, SqT K H p (.str z :: .str c :: xs) ∧ (fdT t).cell = some c ∧ inV (.str z) [.str "look", .str "put", .str "swap", .str "try"] = true) ∨ (∃ z xs, SqT K H p (.str z :: xs) ∧ (fdT t).cell = none ∧ inV (.str z) [.str "look", .str "put", .str "swap", .str "try"] = false) := by
  cases h with
  | one h o => cases o <;> first | exact .inl ⟨_, _, _, SqT.of h, rfl, by decide +kernel⟩ | exact .inr ⟨_, _, SqT.of h, rfl, by decide +kernel⟩
  | cond h hl hr hb he tb te => exact .inr ⟨_, _, SqT.of h, rfl, by decide +kernel⟩
  | loop h hb tb => exact .inr ⟨_, _, SqT.of h, rfl, by decide +kernel⟩
  | joined h hb tb => exact .inr ⟨_, _, SqT.of h, rfl, by decide +kernel⟩
def own1 (z : Str) (xs : List V) : List V := if z = "if" then cutV (.str z :: xs) (some 1) (some 3) else cutV (.str z :: xs) (some 2) none
def own2 (z : Str) (xs : List V) : List V := if inV (.str z) [.str "let", .str "return"] = true then cutV (.str z :: xs) (some 1) none else own1 z xs
theorem TrAt.ownw {K : PySem.W.Frag} {H : Hp} {p : Addr} {t : Tr} (h : TrAt K H p t) : ∃ z xs, SqT K H p (.str z :: xs) ∧ own2 z xs = (fdT t).ment.map V.str := by
  cases h with
  | one h o =>
    cases o
    all_goals refine ⟨_, _, SqT.of h, ?_⟩
    all_goals unfold own2 own1
    all_goals first | (rw [if_pos (by decide +kernel)]; rfl) | (rw [if_neg (by decide +kernel), if_neg (by decide +kernel)]; rfl)
  | cond h hl hr hb he tb te =>
    refine ⟨_, _, SqT.of h, ?_⟩
    unfold own2 own1
    rw [if_neg (by decide +kernel), if_pos rfl]
    rfl
  | loop h hb tb =>
    refine ⟨_, _, SqT.of h, ?_⟩
    unfold own2 own1
    rw [if_neg (by decide +kernel), if_neg (by decide +kernel)]
    rfl
  | joined h hb tb =>
    refine ⟨_, _, SqT.of h, ?_⟩
    unfold own2 own1
    rw [if_neg (by decide +kernel), if_neg (by decide +kernel)]
    rfl
theorem filt_add (g : Str → Bool) (ks : List Str) (x : Str) : (addK ks x).filter g = if x ∈ ks.filter g then ks.filter g else if g x = true then ks.filter g ++ [x] else ks.filter g := by
  unfold addK
  by_cases h : x ∈ ks
  · rw [if_pos h]
    by_cases hg : g x = true
    · rw [if_pos (List.mem_filter.mpr ⟨h, hg⟩)]
    · rw [if_neg hg]
      split <;> rfl
  · rw [if_neg h, if_neg (fun z => h (List.mem_filter.mp z).1), List.filter_append]
    by_cases hg : g x = true
    · rw [if_pos hg]
      simp [List.filter, hg]
    · rw [if_neg hg]
      simp [List.filter, hg]
theorem ife_join {c : Prop} [Decidable c] {ta tb : TE} {σ : L2.St} {H : Hp} {Q : VK} (R : V → Hp → Prop) (h1 : c → ∀ Q' : VK, (∀ v H', R v H' → Q' v H') → ta σ H Q') (h2 : ¬c → ∀ Q' : VK, (∀ v H', R v H' → Q' v H') → tb σ H Q') (h : ∀ v H', R v H' → Q v H') : if c then ta σ H Q else tb σ H Q := by
  split
  · rename_i hc
    exact h1 hc Q h
  · rename_i hc
    exact h2 hc Q h
def gOf (zs : List Str) : Str → Bool := fun k => !fixedB k && !decide (k ∈ zs)
section
variable {w : World} {K : PySem.W.Frag} {mg : Str → Option Value} {base : Heap} {A : Ads}
def spRooms (K : PySem.W.Frag) : Sp := fun vs H Q _ => ∃ (pb : Addr) (ts : List Tr), vs = [.ref pb] ∧ BodyAt K H pb ts ∧ lvB ts < 8 ∧ amB ts ≤ 500 ∧ ∀ (p : Addr) (rs : List Str) (H' : Hp), Same H H' → SqT K H' p (rs.map V.str) → RoomsOf (allB ts) rs → Q (.ref p) H'
theorem ok_law_rooms (T : Txt K mg A) : FnOk P w K mg base CX0 11 A.a_law_rooms A.d_law_rooms ["_law_trees"] (spRooms K) := by
  have nd := sc_law_rooms.nd
  refine T.f_law_rooms.ok sc_law_rooms (fun vs H Q E h => ?_) (fun cdv A' outer s H vs Q E hr h => ?_)
  · obtain ⟨pb, ts, rfl, _⟩ := h
    rfl
  · obtain ⟨pb, ts, rfl, ⟨ps, sq, tr⟩, ln, am, q⟩ := h
    refine ⟨_, (pss_cons (ps_setLc (i := 1) (own := [("_law_tree", 2)]) (g := gName 2) rfl nd rfl rfl (sw_true rfl rfl rfl (by decide +kernel)) (pi_list (pe_call (ok_law_all T) (hr.mono (by decide)) (by rfl) T.m_law_all T.k_law_all T.v_law_all .nil pass0 (pa_cons (pv 0) pa_nil))) (blkOk_by (N := nm_law_rooms) (sc := defScope st_law_rooms) (by decide +kernel)) (fun _ _ _ _ _ => (pg_name (i := 2) nd rfl (Or.inl rfl))) (fun _ _ _ _ _ => (pts_one (pt_cmpR (show OpR _ _ (rIn K false) from op_in_seq) (pe_ix (show IxR _ (rIxT K) from ix_tup) (pv 2) pe_int (fun _ _ => rfl)) (pe_lst (pa_cons pe_str (pa_cons pe_str (pa_cons pe_str (pa_cons pe_str pa_nil))))) (by rfl)))) (fun _ _ _ _ _ => (pe_ix (show IxR _ (rIxT K) from ix_tup) (pv 2) pe_int (fun _ _ => rfl))))
      (pss_one (ps_ret (pe_callTy call_tuple_of (by rfl) T.b_tuple (by decide +kernel) (pa_cons (pe_callB (cr_sortedT rfl (Nat.lt_of_le_of_lt (Nat.add_le_add_left (by decide : 3 ≤ 64) _) hr.units)) (by rfl) T.b_sorted (by decide +kernel) (pa_cons (pe_callTy (cr_setL rfl) (by rfl) T.b_set (by decide +kernel) (pa_cons (pv 1) pa_nil)) pa_nil)) pa_nil))))), ?_⟩
    have la := allB_len ts
    refine ⟨_, rfl, pb, ps, ts, rfl, .inr sq, tr, by omega, by omega, fun l qs H1 s1 nl hl tq => ⟨l, rfl, ⟨_, SqL.of hl⟩, fun D hD => lc_it (walk_list (K := K) (a := l) (xs := qs.map V.ref)) (fun i H8 => Same H1 H8 ∧ ∃ cs : List Str, H8 D = some (.lst (cs.map V.str)) ∧ cs.length ≤ i ∧ ∀ z, z ∈ cs ↔ ∃ u ∈ (allB ts).take i, (fdT u).cell = some z) ⟨same_new hD, [], upd_same, Nat.le_refl _, fun z => by simp⟩ (fun i H8 _ h => SqL.of (h.1 _ _ hl)) ?_ ?_⟩⟩
    · rintro i x H8 H9 hi ⟨s8, cs, hd, lc, mem⟩ ⟨rfl, hx⟩
      rw [List.getElem?_map] at hx
      obtain ⟨p, hp, rfl⟩ := Option.map_eq_some_iff.mp hx
      obtain ⟨u, hu, trp⟩ := (tq.mv (KpT.of_same s8)).get hp
      have il := (List.getElem?_eq_some_iff.mp hu).1
      have tk : (allB ts).take (i + 1) = (allB ts).take i ++ [u] := by rw [List.take_add_one, hu]; rfl
      rcases trp.cellw with ⟨z, c, xs, sqp, hc, iv⟩ | ⟨z, xs, sqp, hc, iv⟩
      · refine ⟨rfl, _, rfl, p, _, _, _, rfl, rfl, sqp, atI_nat (j := 0) rfl, (by show 4 ≤ sizeLine; decide), fun q1 n1 => ⟨q1, _, rfl, .inl (SqL.of upd_same), rfl, rfl, _, rfl, (if_pos iv).mpr ?_⟩⟩
        have s9 := same_new (o := .lst [.str "look", .str "put", .str "swap", .str "try"]) n1
        refine ⟨_, rfl, p, _, _, _, rfl, rfl, (KpT.of_same s9).sq sqp, atI_nat (j := 1) rfl, _, s9 _ _ hd, by rw [List.length_map]; exact lt5000 (by omega), fun b o e => (upd_ne (ne_of_none e hD)).trans (s9 _ _ (s8 _ _ e)), cs ++ [c], ?_, ?_, fun y => ?_⟩
        · rw [upd_same, List.map_append]
          rfl
        · rw [List.length_append]
          show cs.length + 1 ≤ i + 1
          omega
        · rw [tk, List.mem_append, List.mem_singleton, mem y]
          constructor
          · rintro (⟨v, hv, e⟩ | rfl)
            · exact ⟨v, List.mem_append_left _ hv, e⟩
            · exact ⟨u, List.mem_append_right _ (List.mem_singleton.mpr rfl), hc⟩
          · rintro ⟨v, hv, e⟩
            rcases List.mem_append.mp hv with hv | hv
            · exact .inl ⟨v, hv, e⟩
            · rw [List.mem_singleton.mp hv, hc] at e
              exact .inr (Option.some.inj e).symm
      · refine ⟨rfl, _, rfl, p, _, _, _, rfl, rfl, sqp, atI_nat (j := 0) rfl, (by show 4 ≤ sizeLine; decide), fun q1 n1 => ⟨q1, _, rfl, .inl (SqL.of upd_same), rfl, rfl, _, rfl, (if_neg (by rw [Bool.not_eq_true]; exact iv)).mpr ?_⟩⟩
        have s9 := same_new (o := .lst [.str "look", .str "put", .str "swap", .str "try"]) n1
        refine ⟨s8.trans s9, cs, s9 _ _ hd, by omega, fun y => ?_⟩
        rw [tk, mem y]
        constructor
        · rintro ⟨v, hv, e⟩
          exact ⟨v, List.mem_append_left _ hv, e⟩
        · rintro ⟨v, hv, e⟩
          rcases List.mem_append.mp hv with hv | hv
          · exact ⟨v, hv, e⟩
          · rw [List.mem_singleton.mp hv, hc] at e
            cases e
    · rintro H8 ⟨s8, cs, hd, lc, mem⟩
      rw [List.length_map, tq.len] at lc mem
      rw [List.take_length] at mem
      refine ⟨_, rfl, D, cs, rfl, SqL.of hd, Nat.lt_trans (by omega) scan1000, fun pS ls npS ndS memS => ?_⟩
      refine ⟨pS, ls, rfl, upd_same, fun ys py pm sw npy => ?_⟩
      refine ⟨py, _, rfl, .inl ⟨SqL.of upd_same, fun pt npt => ?_⟩⟩
      refine q pt ys _ (((s1.trans s8).trans (same_new npS)).trans ((same_new npy).trans (same_new npt))) (SqT.of upd_same) ⟨sw, pm.nodup_iff.mpr ndS, fun z => ?_⟩
      exact pm.mem_iff.trans ((memS z).trans (mem z))
end
end K07
set_option Elab.async false
set_option linter.all false
set_option maxRecDepth 100000
set_option maxHeartbeats 4000000
namespace K07
open PySem PySem.Spec PyProof.Rows L2 Mo
theorem head_ok {z : Str} {zs : List Str} (nz : NameT z) (few : zs.length ≤ 2) (tz : ∀ x ∈ zs, NameT x) : LineOk (Txt.join " " ("call" :: z :: zs)) := by
  have l1 : (" " : Str).length = 1 := rfl
  have l2 : ("call" : Str).length = 4 := rfl
  have z8 := nz.2.2
  have az := nz.2.1
  have as : AlnT (" " : Str) := aln_by (by decide +kernel)
  have ac : AlnT ("call" : Str) := aln_by (by decide +kernel)
  match e : zs, few with
  | [], _ =>
    rw [join2]
    exact ⟨by simp only [app_length, l1, l2]; omega, aln_app (aln_app ac as) az⟩
  | [x], _ =>
    have hx := tz x (by exact List.mem_singleton.mpr rfl)
    have := hx.2.2
    rw [join3]
    exact ⟨by simp only [app_length, l1, l2]; omega, aln_app (aln_app ac as) (aln_app (aln_app az as) hx.2.1)⟩
  | [x, y], _ =>
    have hx := tz x (by exact List.mem_cons_self ..)
    have hy := tz y (by exact List.mem_cons_of_mem _ (List.mem_singleton.mpr rfl))
    have := hx.2.2
    have := hy.2.2
    rw [join4]
    exact ⟨by simp only [app_length, l1, l2]; omega, aln_app (aln_app ac as) (aln_app (aln_app az as) (aln_app (aln_app hx.2.1 as) hy.2.1))⟩
theorem keys_take {us : List Tr} {i : Nat} {t : Tr} (ht : us[i]? = some t) : keysF (us.take (i + 1)) = (fdT t).ment.foldl addK (keysF (us.take i)) := by
  unfold keysF
  rw [List.take_add_one, ht, List.foldl_append]
  rfl
theorem keys_take_len (us : List Tr) (i : Nat) : (keysF (us.take i)).length ≤ 3 * us.length := by
  have h1 := keys_len (us.take i) [] fun u hu => ment_le u
  have h2 : (us.take i).length ≤ us.length := by rw [List.length_take]; exact Nat.min_le_right _ _
  unfold keysF
  simp only [List.length_nil] at h1
  omega
section
variable {w : World} {K : PySem.W.Frag} {mg : Str → Option Value} {base : Heap} {A : Ads}
def spSlotsL (K : PySem.W.Frag) : Sp := fun vs H Q _ => ∃ (pt pb : Addr) (zs : List Str) (ts : List Tr), vs = [.ref pt, .ref pb] ∧ SqT K H pt (zs.map V.str) ∧ BodyAt K H pb ts ∧ lvB ts < 8 ∧ amB ts ≤ 500 ∧ ∀ (p : Addr) (H' : Hp), Same H H' → SqT K H' p ((slotsF zs (allB ts)).map V.str) → Q (.ref p) H'
theorem ok_law_slots (T : Txt K mg A) : FnOk P w K mg base CX0 11 A.a_law_slots A.d_law_slots ["_law_tags", "_law_trees"] (spSlotsL K) := by
  have nd := sc_law_slots.nd
  refine T.f_law_slots.ok sc_law_slots (fun vs H Q E h => ?_) (fun cdv A' outer s H vs Q E hr h => ?_)
  · obtain ⟨pt, pb, zs, ts, rfl, _⟩ := h
    rfl
  · obtain ⟨pt, pb, zs, ts, rfl, sqz, ⟨ps, sq, tr⟩, ln, am, q⟩ := h
    refine ⟨_, (pss_cons (ps_set (i := 2) nd rfl (Or.inl rfl) (pe_lst pa_nil))
      (pss_cons (ps_for PassesOwn.never rfl (pi_list (pe_call (ok_law_all T) (hr.mono (by decide)) (by rfl) T.m_law_all T.k_law_all T.v_law_all .nil pass0 (pa_cons (pv 1) pa_nil))) (pg_name (i := 3) nd rfl (Or.inl rfl)) (pss_cons (ps_set (i := 4) nd rfl (Or.inl rfl) (pe_ifExp (pt_cmpR op_eq (pe_ix ix_tup (pv 3) pe_int (fun _ _ => rfl)) pe_str (nomark _)) (pe_slice sl_tupX (pv 3) (po_some pe_int) (po_some pe_int)) (pe_slice sl_tupX (pv 3) (po_some pe_int) po_none)))
      (pss_cons (ps_set (i := 4) nd rfl (Or.inl rfl) (pe_ifExp (pt_cmpR op_in_seq (pe_ix ix_tup (pv 3) pe_int (fun _ _ => rfl)) (pe_lst (pa_cons pe_str (pa_cons pe_str pa_nil))) (by rfl)) (pe_slice sl_tupX (pv 3) (po_some pe_int) po_none) (pv 4)))
      (pss_one (ps_for PassesOwn.never rfl (pi_tup (pv 4)) (pg_name (i := 5) nd rfl (Or.inl rfl)) (pss_one (ps_if (PW.pt (pw_and (pt_cmpR op_notIn_seq (pv 5) (pv 2) (by rfl)) (pw_and (pt_cmpR op_notIn_seq (pv 5) (pv 0) (by rfl)) (pw_and1 (pt_cmpR op_notIn_seq (pv 5) (pe_lst (pa_cons pe_str (pa_cons pe_str pa_nil))) (by rfl)))))) (pss_one (ps_expr (pe_bm PySem.F.plainAttrs_list PySem.F.slot_list_append PySem.F.type_list_append mt_append (pv 2) (pa_cons (pv 5) pa_nil)))) pss_nil)))))))
      (pss_one (ps_ret (pe_callTy call_tuple_of (by rfl) T.b_tuple (by decide +kernel) (pa_cons (pv 2) pa_nil)))))), ?_⟩
    have la := allB_len ts
    refine ⟨Nat.zero_le _, fun f nf => ?_⟩
    have s0 := same_new (o := .lst []) nf
    refine ⟨_, rfl, pb, ps, ts, rfl, .inr ((KpT.of_same s0).sq sq), tr.mv (KpT.of_same s0), by omega, by omega, fun l qs H1 s1 nl hl tq => ?_⟩
    have hf1 := s1 _ _ upd_same
    have nfl : f ≠ l := by
      intro e
      rw [← e, upd_same] at nl
      cases nl
    refine ⟨l, rfl, ⟨_, SqL.of hl⟩, for_it (walk_list (K := K) (a := l) (xs := qs.map V.ref)) (fun i σ H2 => KeepBut f H1 H2 ∧ ∃ v3 v4 v5 : Option V, σ = [some (.ref pt), some (.ref pb), some (.ref f), v3, v4, v5] ∧ H2 f = some (.lst (((keysF ((allB ts).take i)).filter (gOf zs)).map V.str))) ⟨KeepBut.refl _ _, none, none, none, rfl, hf1⟩ (fun i σ H2 _ h => SqL.of (h.1 _ _ nfl.symm hl)) ?_ ?_⟩
    · rintro i x σ H2 H3 hi ⟨kb, v3, v4, v5, rfl, hf⟩ ⟨rfl, hx⟩
      rw [List.getElem?_map] at hx
      obtain ⟨p, hp, rfl⟩ := Option.map_eq_some_iff.mp hx
      have kp2 := KpT.lst hf1 kb
      obtain ⟨u, hu, trp⟩ := (tq.mv kp2).get hp
      obtain ⟨z, xs, sqp, ow⟩ := trp.ownw
      have sz2 : SqT K H3 pt (zs.map V.str) := kp2.sq ((KpT.of_same (s0.trans s1)).sq sqz)
      have kl := keys_take_len (allB ts) i
      have ml := ment_le u
      refine ⟨_, rfl, p, _, _, _, rfl, rfl, sqp, atI_nat (j := 0) rfl, rfl, _, rfl, ?_⟩
      refine ife_join (fun v H' => ∃ o, v = .ref o ∧ Same H3 H' ∧ SqT K H' o (own1 z xs)) (fun h Q' hq => ?_) (fun h Q' hq => ?_) ?_
      · have e : z = "if" := by simpa using of_decide_eq_true h
        refine ⟨_, rfl, _, rfl, _, rfl, slX_ok sqp fun o H4 s4 h4 => hq _ _ ⟨o, rfl, s4, ?_⟩⟩
        unfold own1
        rw [if_pos e]
        exact h4
      · have e : ¬ z = "if" := fun e => h (by rw [e]; exact decide_eq_true rfl)
        refine ⟨_, rfl, _, rfl, slX_ok sqp fun o H4 s4 h4 => hq _ _ ⟨o, rfl, s4, ?_⟩⟩
        unfold own1
        rw [if_neg e]
        exact h4
      rintro v H4 ⟨o, rfl, s4, h4⟩
      refine ⟨_, rfl, p, _, _, _, rfl, rfl, (KpT.of_same s4).sq sqp, atI_nat (j := 0) rfl, (by show 2 ≤ sizeLine; decide), fun q1 n1 => ⟨q1, _, rfl, .inl (SqL.of upd_same), rfl, rfl, _, rfl, ?_⟩⟩
      have s5 := same_new (o := .lst [.str "let", .str "return"]) n1
      refine ife_join (fun v H' => ∃ o, v = .ref o ∧ Same (upd H4 q1 (.lst [.str "let", .str "return"])) H' ∧ SqT K H' o ((fdT u).ment.map V.str)) (fun h Q' hq => ?_) (fun h Q' hq => ?_) ?_
      · have h : inV (.str z) [.str "let", .str "return"] = true := h
        refine ⟨_, rfl, _, rfl, slX_ok ((KpT.of_same (s4.trans s5)).sq sqp) fun o H6 s6 h6 => hq _ _ ⟨o, rfl, s6, ?_⟩⟩
        rw [← ow]
        unfold own2
        rw [if_pos h]
        exact h6
      · have h : ¬ inV (.str z) [.str "let", .str "return"] = true := h
        refine ⟨_, rfl, hq _ _ ⟨o, rfl, Same.refl _, ?_⟩⟩
        rw [← ow]
        unfold own2
        rw [if_neg h]
        exact (KpT.of_same s5).sq h4
      rintro v H6 ⟨o2, rfl, s6, h6⟩
      have s36 := (s4.trans s5).trans s6
      have hf6 := s36 _ _ hf
      refine ⟨_, rfl, o2, rfl, ⟨_, h6⟩, for_it (walk_tup (K := K) (a := o2) (xs := (fdT u).ment.map V.str)) (fun j σ H7 => KeepBut f H6 H7 ∧ ∃ v5 : Option V, σ = [some (.ref pt), some (.ref pb), some (.ref f), some (.ref p), some (.ref o2), v5] ∧ H7 f = some (.lst (((((fdT u).ment.take j).foldl addK (keysF ((allB ts).take i))).filter (gOf zs)).map V.str))) ⟨KeepBut.refl _ _, v5, rfl, hf6⟩ (fun j σ H7 _ h => (KpT.lst hf6 h.1).sq h6) ?_ ?_⟩
      · rintro j y σ H7 H8 hj ⟨kb7, v5, rfl, hf7⟩ ⟨rfl, hy⟩
        rw [List.getElem?_map] at hy
        obtain ⟨m, hm, rfl⟩ := Option.map_eq_some_iff.mp hy
        have al := addsK_len ((fdT u).ment.take j) (keysF ((allB ts).take i))
        have tl : ((fdT u).ment.take j).length ≤ 3 := by rw [List.length_take]; omega
        have fl := List.length_filter_le (gOf zs) (((fdT u).ment.take j).foldl addK (keysF ((allB ts).take i)))
        have stp : (((fdT u).ment.take (j + 1)).foldl addK (keysF ((allB ts).take i))).filter (gOf zs) = (addK (((fdT u).ment.take j).foldl addK (keysF ((allB ts).take i))) m).filter (gOf zs) := by
          rw [List.take_add_one, hm, List.foldl_append]
          rfl
        rw [filt_add] at stp
        have sz8 : SqT K H8 pt (zs.map V.str) := (KpT.lst hf6 kb7).sq ((KpT.of_same s36).sq sz2)
        generalize ((fdT u).ment.take j).foldl addK (keysF ((allB ts).take i)) = ks at stp hf7 fl al
        refine ⟨_, rfl, _, rfl, f, _, rfl, .inl (SqL.of hf7), rfl, flat_strs _, _, rfl, ite2 (fun h1 => ?_) (fun h1 => ?_)⟩
        · have n1 : m ∉ ks.filter (gOf zs) := by
            have h1 : (!inV (.str m) ((ks.filter (gOf zs)).map V.str)) = true := h1
            rw [inV_strs] at h1
            intro z
            rw [decide_eq_true z] at h1
            exact absurd h1 (by decide)
          rw [if_neg n1] at stp
          refine ⟨_, rfl, _, rfl, pt, _, rfl, .inr sz8, rfl, flat_strs _, _, rfl, ite2 (fun h2 => ?_) (fun h2 => ?_)⟩
          · have n2 : m ∉ zs := by
              have h2 : (!inV (.str m) (zs.map V.str)) = true := h2
              rw [inV_strs] at h2
              simpa using h2
            refine ⟨_, rfl, (by show 2 ≤ sizeLine; decide), fun q2 nq2 => ⟨q2, _, rfl, .inl (SqL.of upd_same), rfl, rfl, _, rfl, ?_⟩⟩
            have s9 := same_new (o := .lst [.str "nothing", .str "yes"]) nq2
            have hf9 := s9 _ _ hf7
            refine ite2 (fun h3 => ?_) (fun h3 => ?_)
            · have g : gOf zs m = true := by
                have h3 : (!inV (.str m) [.str "nothing", .str "yes"]) = true := h3
                rw [inV_fixed] at h3
                unfold gOf
                rw [h3, decide_eq_false n2]
                rfl
              rw [if_pos g] at stp
              refine ⟨_, rfl, .inl ⟨rfl, _, SqL.of hf9⟩, _, rfl, f, _, _, rfl, rfl, hf9, by rw [List.length_map]; exact lt5000 (by omega), ?_, _, rfl, ?_⟩
              · intro b o nb e
                rw [upd_ne nb]
                exact s9 _ _ (kb7 _ _ nb e)
              · rw [upd_same, stp, List.map_append]
                rfl
            · have g : ¬ gOf zs m = true := by
                have h3 : ¬ (!inV (.str m) [.str "nothing", .str "yes"]) = true := h3
                rw [inV_fixed] at h3
                unfold gOf
                intro z
                exact h3 (Bool.and_eq_true_iff.mp z).1
              rw [if_neg g] at stp
              exact ⟨kb7.trans (KeepBut.of_same s9), _, rfl, by rw [hf9, stp]⟩
          · have g : ¬ gOf zs m = true := by
              have h2 : ¬ (!inV (.str m) (zs.map V.str)) = true := h2
              rw [inV_strs] at h2
              unfold gOf
              intro z
              exact h2 (Bool.and_eq_true_iff.mp z).2
            rw [if_neg g] at stp
            exact ⟨kb7, _, rfl, by rw [hf7, stp]⟩
        · have n1 : m ∈ ks.filter (gOf zs) := by
            have h1 : ¬ (!inV (.str m) ((ks.filter (gOf zs)).map V.str)) = true := h1
            rw [inV_strs] at h1
            simpa using h1
          rw [if_pos n1] at stp
          exact ⟨kb7, _, rfl, by rw [hf7, stp]⟩
      · rintro σ H7 ⟨kb7, v5, rfl, hf7⟩
        refine ⟨(kb.trans (KeepBut.of_same s36)).trans kb7, _, _, _, rfl, ?_⟩
        rw [hf7, keys_take hu, List.length_map, List.take_length]
    · rintro σ H2 ⟨kb, v3, v4, v5, rfl, hf⟩
      rw [List.length_map, tq.len, List.take_length] at hf
      refine ⟨_, rfl, f, _, rfl, .inl ⟨SqL.of hf, fun p hp => q p _ ?_ (SqT.of upd_same)⟩⟩
      refine Same.trans ?_ (same_new hp)
      intro b o e
      exact kb b o (ne_of_none e nf) (s1 _ _ (s0 _ _ e))
mutual
theorem TrAt.rows {H : Hp} : ∀ {p : Addr} {t : Tr}, TrAt K H p t → ∀ r ∈ rowsT t, r.length ≤ 200 + 2 * lvT t ∧ AlnT r
  | _, _, .one h o => by
    intro r hr
    rw [rowsT] at hr
    rw [List.mem_singleton.mp hr]
    exact ⟨by have := o.line_ok.1; omega, o.line_ok.2⟩
  | _, _, .cond (l := l) (r := r0) (b := b) (e := e) h hl hr hb he tb te => by
    have i1 := TrsAt.rows tb
    have i2 := TrsAt.rows te
    have lc := cond_line hl hr
    intro r hr
    have eq := rowsT_eq (.cond l r0 b e)
    rw [eq] at hr
    have lv := lvT_eq (.cond l r0 b e)
    simp only [Tr.line, Tr.inner, Tr.outer] at hr lv
    rcases List.mem_cons.mp hr with rfl | hr
    · exact ⟨by have := lc.1; omega, lc.2⟩
    · rcases List.mem_append.mp hr with hr | hr
      · obtain ⟨x, hx, rfl⟩ := List.mem_map.mp hr
        have l2 : ("  " : Str).length = 2 := rfl
        have := i1 x hx
        exact ⟨by rw [app_length, l2]; omega, aln_app (aln_by (by decide +kernel)) this.2⟩
      · unfold elseR at hr
        split at hr
        · exact (List.not_mem_nil hr).elim
        · rcases List.mem_cons.mp hr with rfl | hr
          · exact ⟨by show 4 ≤ _; omega, aln_by (by decide +kernel)⟩
          · obtain ⟨x, hx, rfl⟩ := List.mem_map.mp hr
            have l2 : ("  " : Str).length = 2 := rfl
            have := i2 x hx
            exact ⟨by rw [app_length, l2]; omega, aln_app (aln_by (by decide +kernel)) this.2⟩
  | _, _, .loop (b := b) h hb tb => by
    have i1 := TrsAt.rows tb
    intro r hr
    have lv := lvT_eq (.loop b)
    rw [rowsT, List.append_nil] at hr
    simp only [Tr.inner, Tr.outer] at lv
    rcases List.mem_cons.mp hr with rfl | hr
    · exact ⟨by show 4 ≤ _; omega, aln_by (by decide +kernel)⟩
    · obtain ⟨x, hx, rfl⟩ := List.mem_map.mp hr
      have l2 : ("  " : Str).length = 2 := rfl
      have := i1 x hx
      exact ⟨by rw [app_length, l2]; omega, aln_app (aln_by (by decide +kernel)) this.2⟩
  | _, _, .joined (b := b) h hb tb => by
    have i1 := TrsAt.rows tb
    intro r hr
    have lv := lvT_eq (.joined b)
    rw [rowsT, List.append_nil] at hr
    simp only [Tr.inner, Tr.outer] at lv
    rcases List.mem_cons.mp hr with rfl | hr
    · exact ⟨by show 6 ≤ _; omega, aln_by (by decide +kernel)⟩
    · obtain ⟨x, hx, rfl⟩ := List.mem_map.mp hr
      have l2 : ("  " : Str).length = 2 := rfl
      have := i1 x hx
      exact ⟨by rw [app_length, l2]; omega, aln_app (aln_by (by decide +kernel)) this.2⟩
theorem TrsAt.rows {H : Hp} : ∀ {ps : List Addr} {ts : List Tr}, TrsAt K H ps ts → ∀ r ∈ rowsB ts, r.length ≤ 200 + 2 * lvB ts ∧ AlnT r
  | _, _, .nil => by
    intro r hr
    rw [rowsB_nil] at hr
    exact (List.not_mem_nil hr).elim
  | _, _, .cons (t := t) (ts := ts) h r => by
    have i1 := TrAt.rows h
    have i2 := TrsAt.rows r
    intro x hx
    rw [rowsB_cons] at hx
    have lv := lvB_cons t ts
    rcases List.mem_append.mp hx with hx | hx
    · have := i1 x hx
      exact ⟨by omega, this.2⟩
    · have := i2 x hx
      exact ⟨by omega, this.2⟩
end
def paperF (z : Str) (zs : List Str) (ts : List Tr) : Str := Txt.join "\n" (Txt.join " " ("call" :: z :: zs) :: ind (rowsB ts))
def spPaper (K : PySem.W.Frag) : Sp := fun vs H Q _ => ∃ (l : Addr) (z : Str) (zs : List Str) (ts : List Tr), vs = [.ref l] ∧ DatAt K H l z zs ts ∧ zs.length ≤ 2 ∧ (∀ z ∈ zs, NameT z) ∧ lvB ts ≤ 6 ∧ amB ts ≤ 100 ∧ ∀ H', Same H H' → Q (.str (paperF z zs ts)) H'
theorem ok_law_paper (T : Txt K mg A) : FnOk P w K mg base CX0 11 A.a_law_paper A.d_law_paper ["_law_made_here"] (spPaper K) := by
  have nd := sc_law_paper.nd
  refine T.f_law_paper.ok sc_law_paper (fun vs H Q E h => ?_) (fun cdv A' outer s H vs Q E hr h => ?_)
  · obtain ⟨l, z, zs, ts, rfl, _⟩ := h
    rfl
  · obtain ⟨l, z, zs, ts, rfl, ⟨pt, pb, hl, nz, tx, ⟨ps, sq, tr⟩⟩, z2, tz, lv, am, q⟩ := h
    refine ⟨_, (pss_cons (ps_asg (pv 0) (pg_unl rfl (pgs_cons (pg_name (i := 1) nd rfl (Or.inl rfl)) (pgs_cons (pg_name (i := 2) nd rfl (Or.inl rfl)) (pgs_cons (pg_name (i := 3) nd rfl (Or.inl rfl)) pgs_nil)))))
      (pss_one (ps_ret (pe_join pe_str (pe_op op_cat (pe_lst (pa_cons (pe_join pe_str (pe_op op_cat (pe_lst (pa_cons pe_str (pa_cons (pv 1) pa_nil))) (pe_callTy call_list_of (by rfl) T.b_list (by decide +kernel) (pa_cons (pv 2) pa_nil)))) pa_nil)) (pe_call (ok_law_lines T 8) (hr.mono (by decide)) (by rfl) T.m_law_lines T.k_law_lines T.v_law_lines .nil pass0 (pa_cons (pv 3) (pa_cons pe_str pa_nil)))))))), ?_⟩
    refine ⟨_, rfl, l, _, rfl, SqL.of hl, rfl, _, _, rfl, _, _, rfl, _, _, rfl, rfl, ?_⟩
    have z8 := nz.2.2
    have t8 := sum_len (n := 8) fun r hr => (tz r hr).2.2
    have l1 : (" " : Str).length = 1 := rfl
    have l2 : ("call" : Str).length = 4 := rfl
    have lz : ∀ z : List Str, (z.map V.str).length = z.length := fun z => List.length_map ..
    refine ⟨⟨_, rfl⟩, ⟨_, rfl⟩, _, rfl, (by show 2 ≤ sizeLine; decide), fun q1 n1 => ?_⟩
    have s1 := same_new (o := .lst [.str "call", .str z]) n1
    refine ⟨_, rfl, pt, _, rfl, .inr ((KpT.of_same s1).sq tx.sq), fun q2 n2 => ?_⟩
    have s2 := same_new (o := .lst (zs.map V.str)) n2
    refine ⟨q1, q2, _, _, rfl, rfl, s2 _ _ upd_same, upd_same, by rw [lz]; exact len5000 (by show 2 + zs.length ≤ 5000; omega), fun q3 n3 => ?_⟩
    have s3 := same_new (o := .lst ([.str "call", .str z] ++ zs.map V.str)) n3
    refine ⟨" ", q3, "call" :: z :: zs, rfl, rfl, .inl (SqL.of upd_same), ?_, (by show 1 ≤ sizeLine; decide), fun q4 n4 => ?_⟩
    · simp only [List.map_cons, List.sum_cons, List.length_cons, l1, l2]
      omega
    have s4 := same_new (o := .lst [.str (Txt.join " " ("call" :: z :: zs))]) n4
    have s14 := ((s1.trans s2).trans s3).trans s4
    refine ⟨_, rfl, pb, ps, ts, "  ", rfl, .inr ((KpT.of_same s14).sq sq), tr.mv (KpT.of_same s14), by omega, by omega, by omega, (by show 2 + 2 * lvB ts ≤ 100; omega), fun l7 H7 s7 n7 h7 => ?_⟩
    have rl := rowsB_len ts
    have rw_ := tr.rows
    have ep : pre "  " (rowsB ts) = ind (rowsB ts) := rfl
    rw [ep] at h7
    have il : (ind (rowsB ts)).length ≤ 200 := by
      unfold ind
      rw [List.length_map]
      omega
    refine ⟨q4, l7, _, _, rfl, rfl, s7 _ _ upd_same, h7, by rw [lz]; exact len5000 (by show 1 + _ ≤ 5000; omega), fun q5 n5 => ?_⟩
    refine ⟨"\n", q5, Txt.join " " ("call" :: z :: zs) :: ind (rowsB ts), rfl, rfl, .inl (SqL.of upd_same), ?_, q _ ((s14.trans s7).trans (same_new n5))⟩
    have jl : (Txt.join " " ("call" :: z :: zs)).length ≤ 212 := (head_ok nz z2 tz).1
    have si : ((ind (rowsB ts)).map (·.length)).sum ≤ (ind (rowsB ts)).length * 214 := sum_len fun r hr => by
      obtain ⟨x, hx, rfl⟩ := List.mem_map.mp hr
      have l3 : ("  " : Str).length = 2 := rfl
      have := (rw_ x hx).1
      show ("  " ++ x).length ≤ 214
      rw [app_length, l3]
      omega
    have e : ("\n" : Str).length = 1 := rfl
    simp only [List.map_cons, List.sum_cons, List.length_cons, e]
    omega
end
end K07
set_option Elab.async false
set_option linter.all false
set_option maxRecDepth 100000
set_option maxHeartbeats 4000000
namespace K07
open PySem PySem.Spec PyProof.Rows L2 Mo
theorem put1s {xs : List Str} : ∀ l : List Str, l.Nodup → (xs.foldl (fun l k => put1 k l) l).Nodup ∧ ∀ z, z ∈ xs.foldl (fun l k => put1 k l) l ↔ z ∈ xs ∨ z ∈ l := by
  induction xs with
  | nil => exact fun l h => ⟨h, fun z => by simp⟩
  | cons x xs ih =>
    intro l h
    obtain ⟨h1, h2⟩ := ih (put1 x l) (put1_nd h)
    refine ⟨h1, fun z => (h2 z).trans ?_⟩
    rw [mem_put1, List.mem_cons]
    constructor
    · rintro (a | a | a)
      · exact .inl (.inr a)
      · exact .inl (.inl a)
      · exact .inr a
    · rintro ((a | a) | a)
      · exact .inr (.inl a)
      · exact .inl a
      · exact .inr (.inr a)
theorem rooms_ex (us : List Tr) : ∃ rs, RoomsOf us rs := by
  obtain ⟨h1, h2⟩ := put1s (xs := us.filterMap fun u => (fdT u).cell) [] List.nodup_nil
  refine ⟨_, sort_leS ((us.filterMap fun u => (fdT u).cell).foldl (fun l k => put1 k l) []), (List.mergeSort_perm _ _).nodup_iff.mpr h1, fun z => ((List.mergeSort_perm _ _).mem_iff).trans ((h2 z).trans ?_)⟩
  rw [List.mem_filterMap]
  simp
def kwT (t : Tr) : Str := kwords.getD t.k ""
theorem kwT_asc (ts : List Tr) (h : ∀ t ∈ ts, t.k < 10) : ∀ y ∈ ts.map kwT, Asc y := by
  intro y hy
  obtain ⟨t, ht, rfl⟩ := List.mem_map.mp hy
  have z : ∀ k : Fin 10, AlnT (kwords.getD k.val "") := fun k => aln_by (by revert k; decide +kernel)
  exact AlnT.asc (z ⟨t.k, h t ht⟩)
section
variable {w : World} {K : PySem.W.Frag} {mg : Str → Option Value} {base : Heap} {A : Ads}
def spBuilt (K : PySem.W.Frag) (A : Ads) : Sp := fun vs H Q _ => ∃ (a l : Addr) (c : Cl), vs = [.ref a, .ref l] ∧ Src H a ∧ DatAt K H l c.z c.zs c.ts ∧ ClOk c ∧ okB c.ts = true ∧
  ∀ (p : Addr) (H' : Hp), CallAt K A H' p c → Src H' a → KeepBut a H H' → Q (.ref p) H'
theorem ok_law_built (T : Txt K mg A) : FnOk P w K mg base CX0 24 A.a_law_built A.d_law_built ["_law_source_here", "_law_made_here"] (spBuilt K A) := by
  have nd := sc_law_built.nd
  refine T.f_law_built.ok sc_law_built (fun vs H Q E h => ?_) (fun cdv A' outer s H vs Q E hr h => ?_)
  · obtain ⟨a, l, c, rfl, _⟩ := h
    rfl
  · obtain ⟨a, l, c, rfl, src, ⟨pt, pb, hl, nz, tx, ⟨ps, sq, tr⟩⟩, ok, okb, q⟩ := h
    have lv5 := ok.lv
    have am4 := ok.am
    have lps := tr.len
    have lts := amB_len c.ts
    refine ⟨_, (pss_cons (ps_asg (pv 1) (pg_unl rfl (pgs_cons (pg_name (i := 2) nd rfl (Or.inl rfl)) (pgs_cons (pg_name (i := 3) nd rfl (Or.inl rfl)) (pgs_cons (pg_name (i := 4) nd rfl (Or.inl rfl)) pgs_nil)))))
      (pss_cons (ps_set (i := 5) nd rfl (Or.inl rfl) (pe_callTy call_tuple_of (by rfl) T.b_tuple (by decide +kernel) (pa_cons (pe_lc (own := [("_law_tree", 7)]) (g := gName 7) (tt := tYes) rfl nd (pi_tup (pv 4)) (blkOk_by (N := nm_law_built) (sc := defScope st_law_built) (by decide +kernel)) (fun _ _ _ _ _ => (pg_name (i := 7) nd rfl (Or.inl rfl))) (fun _ _ _ _ _ => pts_nil) (fun _ _ _ _ _ => (pe_call (ok_law_made T) (hr.mono (by decide)) (by rfl) T.m_law_made T.k_law_made T.v_law_made .nil pass0 (pa_cons (pv 0) (pa_cons (pv 7) pa_nil))))) pa_nil)))
      (pss_cons (ps_set (i := 6) nd rfl (Or.inl rfl) (pe_ifExp (pt_cmpR op_eq (pe_call (ok_law_take T) (hr.mono (by decide)) (by rfl) T.m_law_take T.k_law_take T.v_law_take .nil pass0 (pa_cons (pv 0) (pa_cons pe_int pa_nil))) pe_int (nomark _)) (pe_make T.mk_Call (ok_Call___init__ T) (hr.mono (by decide)) (by rfl) T.m_Call T.v_Call___init__ .nil pass0 (pa_cons (pv 2) (pa_cons (pv 3) (pa_cons (pv 5) pa_nil)))) (pe_makeK0 T.mk_Call (ok_Call___init__ T) (hr.mono (by decide)) (by rfl) T.m_Call T.kb_Call pass0 (pk_cons (pv 5) (pk_cons (pv 3) (pk_cons (pv 2) pk_nil))))))
      (pss_one (ps_ret (pe_ifExp (PW.pt (pw_and (pt_cmpR op_eq (pe_callB call_len_seq (by rfl) T.b_len (by decide +kernel) (pa_cons (pv 5) pa_nil)) (pe_callB call_len_seq (by rfl) T.b_len (by decide +kernel) (pa_cons (pv 4) pa_nil)) (nomark _)) (pw_and1 (pt_cmpR (op_eqD hr.units) (pe_lc (own := [("_law_thing", 8)]) (g := gName 8) (tt := tYes) rfl nd (pi_tup (pv 5)) (blkOk_by (N := nm_law_built) (sc := defScope st_law_built) (by decide +kernel)) (fun _ _ _ _ _ => (pg_name (i := 8) nd rfl (Or.inl rfl))) (fun _ _ _ _ _ => pts_nil) (fun _ _ _ _ _ => (show PE _ _ (tCon K _ _) from pe_con (pv 8) rfl))) (pe_lc (own := [("_law_tree", 7)]) (g := gName 7) (tt := tYes) rfl nd (pi_tup (pv 4)) (blkOk_by (N := nm_law_built) (sc := defScope st_law_built) (by decide +kernel)) (fun _ _ _ _ _ => (pg_name (i := 7) nd rfl (Or.inl rfl))) (fun _ _ _ _ _ => pts_nil) (fun _ _ _ _ _ => (pe_ix (show IxR _ (rIxT K) from ix_tup) (pv 7) pe_int (fun _ _ => rfl)))) (nomark _))))) (pv 6) pe_non)))))), ?_⟩
    refine ⟨_, rfl, l, _, rfl, SqL.of hl, rfl, _, _, rfl, _, _, rfl, _, _, rfl, rfl, ?_⟩
    refine ⟨_, rfl, pb, rfl, ⟨_, sq⟩, fun D hD => ?_⟩
    have nDa : D ≠ a := src.fresh hD
    refine lc_it (walk_tup (K := K) (a := pb) (xs := ps.map V.ref)) (fun i H6 => KeepBut a H H6 ∧ Src H6 a ∧ ∃ qs : List Addr, H6 D = some (.lst (qs.map V.ref)) ∧ StsT K A H6 qs (c.ts.take i)) ⟨KeepBut.of_same (same_new hD), src.same (same_new hD), [], upd_same, .nil⟩ (fun i H6 _ h => (src.kp h.1).sq sq) ?_ ?_
    · rintro i x H5 H6 hi ⟨kb, s6, qs, hd6, sts⟩ ⟨rfl, hx⟩
      rw [List.getElem?_map] at hx
      obtain ⟨p, hp, rfl⟩ := Option.map_eq_some_iff.mp hx
      obtain ⟨t, ht, trp⟩ := (tr.mv (src.kp kb)).get hp
      have tm := List.mem_of_getElem? ht
      have lt : lvT t ≤ lvB c.ts := lvB_mem tm
      have at_ : amT t ≤ amB c.ts := amB_mem tm
      have okt : okT t = true := by
        rw [okB_all] at okb
        exact List.all_eq_true.mp okb t tm
      have ls := sts.len
      have tl : (c.ts.take i).length ≤ c.ts.length := by rw [List.length_take]; exact Nat.min_le_right _ _
      refine ⟨rfl, _, rfl, _, rfl, a, p, t, rfl, s6, trp, by omega, by omega, by omega, okt, fun q1 H7 stq s7 kb7 => ?_⟩
      have hd7 := kb7 _ _ nDa hd6
      have k2 := KpT.lst hd7 (KeepBut.upd D H7 (.lst (qs.map V.ref ++ [.ref q1])))
      refine ⟨_, hd7, ?_, ?_, s7.upd nDa, qs ++ [q1], ?_, ?_⟩
      · rw [List.length_map]
        exact lt5000 (by omega)
      · intro b o nb e
        rw [upd_ne (ne_of_none e hD)]
        exact kb7 _ _ nb (kb _ _ nb e)
      · rw [upd_same, List.map_append]
        rfl
      · rw [List.take_add_one, ht]
        exact ((sts.mv (s6.kp kb7)).mv k2).app (.cons (stq.mv k2) .nil)
    · rintro H6 ⟨kb6, src6, qs, hd6, sts⟩
      rw [List.take_of_length_le (by rw [List.length_map, lps]; exact Nat.le_refl _)] at sts
      refine ⟨D, _, rfl, .inl ⟨SqL.of hd6, fun po npo => ?_⟩⟩
      have s7 := same_new (o := .tup (qs.map V.ref)) npo
      refine ⟨_, rfl, a, _, rfl, src6.same s7, by decide, by decide, fun d H9 d0 d1 src9 kb9 => ?_⟩
      have kp79 := (KpT.of_same s7).trans ((src6.same s7).kp kb9)
      have kb69 : KeepBut a H H9 := (kb6.trans (KeepBut.of_same s7)).trans kb9
      have sqo : SqT K H9 po (qs.map V.ref) := ((src6.same s7).kp kb9).sq (SqT.of upd_same)
      have sts9 := sts.mv kp79
      have tx9 := TXkp tx (src.kp kb69)
      refine ⟨rfl, _, rfl, ?_⟩
      refine ife_join (fun v H' => ∃ p, v = .ref p ∧ CallAt K A H' p c ∧ Src H' a ∧ KeepBut a H9 H') (fun _ Q' hq => ?_) (fun _ Q' hq => ?_) ?_
      · refine ⟨_, rfl, _, rfl, _, rfl, fun x dx nx ndx nex => ?_⟩
        have nxa := src9.fresh nx
        have sx : Same H9 (upd (upd H9 dx (.own x)) x (.ins A.c_Call dx [])) := fun b o e => by
          rw [upd_ne (ne_of_none e nx), upd_ne (ne_of_none e ndx)]
          exact e
        refine ⟨x, dx, pt, po, qs, c, rfl, upd_same, TXkp tx9 (KpT.of_same sx), (KpT.of_same sx).sq sqo, sts9.mv (KpT.of_same sx), ok, fun H' ca kb => ⟨rfl, hq _ _ ?_⟩⟩
        obtain ⟨f1, f2⟩ := made_fin src9 (KeepBut.refl a H9) nx ndx nex kb nxa
        exact ⟨x, rfl, ca, f1, f2⟩
      · refine ⟨_, rfl, _, rfl, _, rfl, rfl, rfl, fun x dx nx ndx nex => ?_⟩
        have nxa := src9.fresh nx
        have sx : Same H9 (upd (upd H9 dx (.own x)) x (.ins A.c_Call dx [])) := fun b o e => by
          rw [upd_ne (ne_of_none e nx), upd_ne (ne_of_none e ndx)]
          exact e
        refine ⟨x, dx, pt, po, qs, c, rfl, upd_same, TXkp tx9 (KpT.of_same sx), (KpT.of_same sx).sq sqo, sts9.mv (KpT.of_same sx), ok, fun H' ca kb => ⟨rfl, hq _ _ ?_⟩⟩
        obtain ⟨f1, f2⟩ := made_fin src9 (KeepBut.refl a H9) nx ndx nex kb nxa
        exact ⟨x, rfl, ca, f1, f2⟩
      rintro v HA ⟨p, rfl, ca, srcA, kbA⟩
      have kpA := src9.kp kbA
      have sqoA := kpA.sq sqo
      have stsA := sts9.mv kpA
      have kbHA := kb69.trans kbA
      have sqA := (src.kp kbHA).sq sq
      have trA := tr.mv (src.kp kbHA)
      have lqs := sts.len
      refine ⟨_, rfl, po, _, rfl, .inr sqoA, _, rfl, pb, _, rfl, .inr sqA, rfl, _, rfl, (if_pos ?_).mpr ?_⟩
      · rw [List.length_map, List.length_map, lqs, lps]
        exact decide_eq_true rfl
      refine ⟨_, rfl, po, rfl, ⟨_, sqoA⟩, fun D1 hD1 => lc_it (walk_tup (K := K) (a := po) (xs := qs.map V.ref)) (fun i H8 => Same HA H8 ∧ H8 D1 = some (.lst (((c.ts.take i).map kwT).map V.str))) ⟨same_new hD1, upd_same⟩ (fun i H8 _ h => (KpT.of_same h.1).sq sqoA) ?_ ?_⟩
      · rintro i x H8 H9' hi ⟨s8, hd8⟩ ⟨rfl, hx⟩
        rw [List.getElem?_map] at hx
        obtain ⟨r, hr2, rfl⟩ := Option.map_eq_some_iff.mp hx
        obtain ⟨t, ht, stt⟩ := (stsA.mv (KpT.of_same s8)).get hr2
        obtain ⟨b1, o1, sa, _, _⟩ := stt.at
        obtain ⟨C, dx, fs, ps1, pr, pb1, po1, h1, h2, h3, h4, h5, h6, h7, h8', h9, h10, h11, h12⟩ := sa
        have fc := T.fam C (List.mem_of_getElem? h1)
        obtain ⟨u, z', hz', con⟩ := con_k T h1
        have ez : kwT t = z' := by
          have hz' : kwords[t.k]? = some z' := hz'
          unfold kwT
          rw [List.getD_eq_getElem?_getD, hz']
          rfl
        refine ⟨rfl, _, rfl, r, C, dx, fs, _, u, rfl, h2, fc.cl, con, h11, _, hd8, ?_, ?_, ?_⟩
        · rw [List.length_map, List.length_map, List.length_take]
          exact lt5000 (by omega)
        · exact fun b o e => (upd_ne (ne_of_none e hD1)).trans (s8 _ _ e)
        · rw [upd_same, List.take_add_one, ht, ← ez]
          simp
      rintro HB ⟨sB, hdB⟩
      have sqB := (KpT.of_same sB).sq sqA
      refine ⟨_, rfl, pb, rfl, ⟨_, sqB⟩, fun D2 hD2 => lc_it (walk_tup (K := K) (a := pb) (xs := ps.map V.ref)) (fun i H8 => Same HB H8 ∧ H8 D2 = some (.lst (((c.ts.take i).map kwT).map V.str))) ⟨same_new hD2, upd_same⟩ (fun i H8 _ h => (KpT.of_same h.1).sq sqB) ?_ ?_⟩
      · rintro i x H8 H9' hi ⟨s8, hd8⟩ ⟨rfl, hx⟩
        rw [List.getElem?_map] at hx
        obtain ⟨r, hr2, rfl⟩ := Option.map_eq_some_iff.mp hx
        obtain ⟨t, ht, trt⟩ := (trA.mv (KpT.of_same (sB.trans s8))).get hr2
        obtain ⟨z, xs, hq, hz, k10⟩ := trt.hd
        have ez : kwT t = z := by
          unfold kwT
          rw [List.getD_eq_getElem?_getD, hz]
          rfl
        refine ⟨rfl, _, rfl, r, _, _, _, rfl, rfl, hq, atI_nat (j := 0) rfl, _, hd8, ?_, ?_, ?_⟩
        · rw [List.length_map, List.length_map, List.length_take]
          exact lt5000 (by omega)
        · exact fun b o e => (upd_ne (ne_of_none e hD2)).trans (s8 _ _ e)
        · rw [upd_same, List.take_add_one, ht, ← ez]
          simp
      rintro HC ⟨sC, hdC⟩
      have e1 : c.ts.take (qs.map V.ref).length = c.ts := List.take_of_length_le (by rw [List.length_map, lqs]; exact Nat.le_refl _)
      have e2 : c.ts.take (ps.map V.ref).length = c.ts := List.take_of_length_le (by rw [List.length_map, lps]; exact Nat.le_refl _)
      rw [e1] at hdB
      rw [e2] at hdC
      have k10 : ∀ t ∈ c.ts, t.k < 10 := by
        intro t ht
        obtain ⟨i, hi⟩ := List.mem_iff_getElem?.mp ht
        have : ps[i]? ≠ none := by
          rw [Ne, List.getElem?_eq_none_iff, lps]
          have := (List.getElem?_eq_some_iff.mp hi).1
          omega
        obtain ⟨r, hr2⟩ := Option.ne_none_iff_exists'.mp this
        obtain ⟨t', ht', trt⟩ := trA.get hr2
        rw [hi] at ht'
        cases ht'
        obtain ⟨_, _, _, _, k⟩ := trt.hd
        exact k
      have sh := shaped_strs (kwT_asc c.ts k10)
      refine ⟨.list ((c.ts.map kwT).map PyData.str), .list ((c.ts.map kwT).map PyData.str), .lst (SqL.of (sC _ _ hdB)) (dp_strs _), .lst (SqL.of hdC) (dp_strs _), sh, sh, _, rfl, ?_⟩
      rw [SeqAt.eqv_refl _ (SeqAt.canLay_of_shaped sh)]
      have sBC := sB.trans sC
      exact ⟨_, rfl, q p _ (ca.mv (KpT.of_same sBC)) (srcA.same sBC) (kbHA.trans (KeepBut.of_same sBC))⟩
end
end K07
set_option Elab.async false
set_option linter.all false
set_option maxRecDepth 100000
set_option maxHeartbeats 4000000
namespace K07
open PySem PySem.Spec PyProof.Rows L2 Mo
structure D3 where
  z : Str
  zs : List Str
  ts : List Tr
inductive DatsAt (K : PySem.W.Frag) (H : Hp) : List Addr → List D3 → Prop where
  | nil : DatsAt K H [] []
  | cons {l : Addr} {d : D3} {ls : List Addr} {ds : List D3} (h : DatAt K H l d.z d.zs d.ts) (r : DatsAt K H ls ds) : DatsAt K H (l :: ls) (d :: ds)
theorem DatAt.mv {K : PySem.W.Frag} {H H' : Hp} {a l : Addr} {z : Str} {zs : List Str} {ts : List Tr} (h : DatAt K H l z zs ts) (src : Src H a) (kb : KeepBut a H H') : DatAt K H' l z zs ts := by
  obtain ⟨pt, pb, hl, nz, tx, bd⟩ := h
  refine ⟨pt, pb, kb _ _ ?_ hl, nz, TXkp tx (src.kp kb), bd.mv (src.kp kb)⟩
  obtain ⟨x, y, c, e, _⟩ := src
  exact ne_of hl e (by intro q; injection q with q; injection q with q; cases q)
theorem DatAt.same {K : PySem.W.Frag} {H H' : Hp} {l : Addr} {z : Str} {zs : List Str} {ts : List Tr} (h : DatAt K H l z zs ts) (s : Same H H') : DatAt K H' l z zs ts := by
  obtain ⟨pt, pb, hl, nz, tx, bd⟩ := h
  exact ⟨pt, pb, s _ _ hl, nz, TXkp tx (KpT.of_same s), bd.mv (KpT.of_same s)⟩
theorem DatsAt.same {K : PySem.W.Frag} {H H' : Hp} (s : Same H H') : ∀ {ls : List Addr} {ds : List D3}, DatsAt K H ls ds → DatsAt K H' ls ds
  | _, _, .nil => .nil
  | _, _, .cons h r => .cons (h.same s) (DatsAt.same s r)
theorem DatsAt.mv {K : PySem.W.Frag} {H H' : Hp} {a : Addr} (src : Src H a) (kb : KeepBut a H H') : ∀ {ls : List Addr} {ds : List D3}, DatsAt K H ls ds → DatsAt K H' ls ds
  | _, _, .nil => .nil
  | _, _, .cons h r => .cons (h.mv src kb) (DatsAt.mv src kb r)
theorem DatsAt.app {K : PySem.W.Frag} {H : Hp} : ∀ {ls ms : List Addr} {ds es : List D3}, DatsAt K H ls ds → DatsAt K H ms es → DatsAt K H (ls ++ ms) (ds ++ es)
  | _, _, _, _, .nil, r => r
  | _, _, _, _, .cons h r, q => .cons h (DatsAt.app r q)
theorem DatsAt.len {K : PySem.W.Frag} {H : Hp} : ∀ {ls : List Addr} {ds : List D3}, DatsAt K H ls ds → ls.length = ds.length
  | _, _, .nil => rfl
  | _, _, .cons _ r => congrArg Nat.succ (DatsAt.len r)
theorem DatsAt.get {K : PySem.W.Frag} {H : Hp} : ∀ {ls : List Addr} {ds : List D3}, DatsAt K H ls ds → ∀ {i : Nat} {l : Addr}, ls[i]? = some l → ∃ d, ds[i]? = some d ∧ DatAt K H l d.z d.zs d.ts
  | _, _, .nil, i, p, h => by simp at h
  | _, _, .cons h r, 0, p, e => by
    cases e
    exact ⟨_, rfl, h⟩
  | _, _, .cons h r, i + 1, p, e => DatsAt.get r (i := i) e
/-- what makes a good call -/
def Good (d : D3) : Prop := ∃ gs rs, NmG d.zs gs rs ∧ ClG d.zs gs rs d.ts
theorem Good.rev {z y : Str} {zs : List Str} {ts : List Tr} (h : Good ⟨z, zs, ts⟩) : Good ⟨y, zs.reverse, ts⟩ := by
  obtain ⟨gs, rs, n, c⟩ := h
  have p : (zs.reverse ++ gs).Perm (zs ++ gs) := (List.reverse_perm zs).append_right gs
  refine ⟨gs, rs, ⟨p.nodup_iff.mpr n.nd, by show zs.reverse.length ≤ 2; rw [List.length_reverse]; exact n.z2, n.g3, n.r3, fun z hz => n.nm z (p.mem_iff.mp hz)⟩, ⟨c.lv, c.am, c.pc, c.lo, c.ok, fun u hu => ?_⟩⟩
  obtain ⟨a1, a2, a3, a4⟩ := c.us u hu
  exact ⟨fun z hz => (a1 z hz).imp (fun m => p.mem_iff.mpr m) id, a2, a3, a4⟩
theorem Good.name {z y : Str} {zs : List Str} {ts : List Tr} (h : Good ⟨z, zs, ts⟩) : Good ⟨y, zs, ts⟩ := h
theorem Good.parts {z y : Str} {zs : List Str} {ts us : List Tr} (h : Good ⟨z, zs, ts⟩) (lv : lvB us ≤ 5) (am : amB us ≤ 40) (pc : pcB us ≤ 12) (lo : loB us = false) (ok : okB us = true) (m : ∀ t ∈ us, t ∈ ts ∨ t = .cond "yes" "nothing" [] []) : Good ⟨y, zs, us⟩ := by
  obtain ⟨gs, rs, n, c⟩ := h
  refine ⟨gs, rs, n, ⟨lv, am, pc, lo, ok, UsB.of fun t ht => ?_⟩⟩
  rcases m t ht with h | rfl
  · exact c.us.at h
  · exact UsT.mk ⟨all2 (.inr rfl) (.inr rfl), fun z h => noS h, fun z h => noS h, trivial⟩ (UsB.nil.app UsB.nil)
theorem Good.nil {z : Str} {zs : List Str} (h : zs = [] ∨ zs = [("p" : Str)]) : Good ⟨z, zs, []⟩ := by
  refine ⟨[], [], ⟨?_, ?_, Nat.zero_le _, Nat.zero_le _, ?_⟩, ⟨by rw [lvB_nil]; exact Nat.zero_le _, by rw [amB_nil]; exact Nat.zero_le _, by rw [pcB_nil]; exact Nat.zero_le _, loB_nil, okB_nil, UsB.nil⟩⟩
  all_goals rcases h with rfl | rfl
  · exact List.nodup_nil
  · show (["p"] : List Str).Nodup
    decide
  · exact Nat.zero_le _
  · show 1 ≤ 2
    decide
  · exact fun z hz => (List.not_mem_nil hz).elim
  · intro z hz
    have hz : z ∈ (["p"] : List Str) := hz
    rw [List.mem_singleton.mp hz]
    exact ⟨by decide +kernel, aln_by (by decide +kernel), by decide⟩
theorem cut_neg (xs : List V) : cutV xs none (some (-1)) = xs.take (xs.length - 1) := by
  unfold cutV
  have e1 : HT.sIx xs.length 0 none = 0 := rfl
  have e2 : HT.sIx xs.length xs.length (some (-1)) = xs.length - 1 := by
    show (if (-1 : Int) < 0 then ((-1 : Int) + (xs.length : Int)).toNat else min (-1 : Int).toNat xs.length) = _
    rw [if_pos (by decide)]
    omega
  rw [e1, e2, Nat.sub_zero, List.drop_zero]
theorem ite_joinS {c : Prop} [Decidable c] {a : Prop} {P : L2.St → Hp → Prop} {σ : L2.St} {U : Hp} (R : L2.St → Hp → Prop) (h1 : c → (∀ σ' U', R σ' U' → P σ' U') → a) (h2 : R σ U) (h : ∀ σ' U', R σ' U' → P σ' U') : if c then a else P σ U := by
  split
  · rename_i hc
    exact h1 hc h
  · exact h σ U h2
section
variable {w : World} {K : PySem.W.Frag} {mg : Str → Option Value} {base : Heap} {A : Ads}
def spMates (K : PySem.W.Frag) : Sp := fun vs H Q _ => ∃ (a l : Addr) (d : D3), vs = [.ref a, .ref l] ∧ Src H a ∧ DatAt K H l d.z d.zs d.ts ∧ Good d ∧
  ∀ (f : Addr) (ls : List Addr) (ds : List D3) (H' : Hp), H' f = some (.lst (ls.map V.ref)) → DatsAt K H' ls ds → (∀ d ∈ ds, Good d) → 1 ≤ ds.length → ds.length ≤ 8 → Src H' a → KeepBut a H H' → Q (.ref f) H'
theorem ok_law_mates (T : Txt K mg A) : FnOk P w K mg base CX0 12 A.a_law_mates A.d_law_mates ["_law_source_here", "_law_made_here"] (spMates K) := by
  have nd := sc_law_mates.nd
  refine T.f_law_mates.ok sc_law_mates (fun vs H Q E h => ?_) (fun cdv A' outer s H vs Q E hr h => ?_)
  · obtain ⟨a, l, d, rfl, _⟩ := h
    rfl
  · obtain ⟨a, l, ⟨z, zs, ts⟩, rfl, src, dat, good, q⟩ := h
    have ⟨pt, pb, hl, nz, tx, ⟨ps, sq, tr⟩⟩ := dat
    have hl : H l = some (.lst [.str z, .ref pt, .ref pb]) := hl
    have tx : TX H pt (zs.map V.str) := tx
    have tr : TrsAt K H ps ts := tr
    have ⟨gs, rs, ng, cg⟩ := good
    have lts := amB_len ts
    have am4 : amB ts ≤ 40 := cg.am
    have lps := tr.len
    refine ⟨_, (pss_cons (ps_asg (pv 1) (pg_unl rfl (pgs_cons (pg_name (i := 2) nd rfl (Or.inl rfl)) (pgs_cons (pg_name (i := 3) nd rfl (Or.inl rfl)) (pgs_cons (pg_name (i := 4) nd rfl (Or.inl rfl)) pgs_nil)))))
      (pss_cons (ps_set (i := 5) nd rfl (Or.inl rfl) (pe_tup (pa_cons (pe_tup (pa_cons pe_str (pa_cons pe_str (pa_cons pe_str (pa_cons (pe_tupX pa_nil) (pa_cons (pe_tupX pa_nil) pa_nil)))))) pa_nil)))
      (pss_cons (ps_set (i := 6) nd rfl (Or.inl rfl) (pe_lst (pa_cons (pv 1) (pa_cons (pe_lst (pa_cons (pe_call (ok_law_word T) (hr.mono (by decide)) (by rfl) T.m_law_word T.k_law_word T.v_law_word .nil pass0 (pa_cons (pv 0) pa_nil)) (pa_cons (pv 3) (pa_cons (pv 4) pa_nil)))) (pa_cons (pe_lst (pa_cons (pv 2) (pa_cons (pe_revX rfl (by rfl) T.b_tuple (by rfl) T.b_reversed (pe_callTy call_list_of (by rfl) T.b_list (by decide +kernel) (pa_cons (pv 3) pa_nil))) (pa_cons (pv 4) pa_nil)))) (pa_cons (pe_lst (pa_cons (pv 2) (pa_cons (pv 3) (pa_cons (pe_slice sl_tupX (pv 4) po_none (po_some (pe_un un_neg pe_int))) pa_nil)))) pa_nil))))))
      (pss_cons (ps_if (pt_cmpR op_lt (pe_call (ok_law_size T 8) (hr.mono (by decide)) (by rfl) T.m_law_size T.k_law_size T.v_law_size .nil pass0 (pa_cons (pv 4) pa_nil)) pe_int (nomark _)) (pss_one (ps_set (i := 6) nd rfl (Or.inl rfl) (pe_op op_cat (pv 6) (pe_lst (pa_cons (pe_lst (pa_cons (pv 2) (pa_cons (pv 3) (pa_cons (pe_op op_catX (pv 4) (pv 5)) pa_nil)))) (pa_cons (pe_lst (pa_cons (pv 2) (pa_cons (pv 3) (pa_cons (pe_op op_catX (pv 5) (pv 4)) pa_nil)))) pa_nil)))))) pss_nil)
      (pss_one (ps_ret (pe_op op_cat (pv 6) (pe_lst (pa_cons (pe_lst (pa_cons (pv 2) (pa_cons (pe_tupX pa_nil) (pa_cons (pe_tupX pa_nil) pa_nil)))) (pa_cons (pe_lst (pa_cons (pv 2) (pa_cons (pe_tupX (pa_cons pe_str pa_nil)) (pa_cons (pe_tupX pa_nil) pa_nil)))) pa_nil)))))))))), ?_⟩
    refine ⟨_, rfl, l, _, rfl, SqL.of hl, rfl, _, _, rfl, _, _, rfl, _, _, rfl, rfl, ?_⟩
    refine ⟨Nat.zero_le _, fun e1 b1 hb1 n1 => ⟨Nat.zero_le _, fun e2 b2 hb2 n2 => ⟨(by show 5 ≤ sizeLine; decide), fun pc n3 => ⟨(by show 1 ≤ sizeLine; decide), fun pm n4 => ?_⟩⟩⟩⟩
    have s1 := same_new (o := .frz b1 (.tup [])) n1
    have s2 := same_new (o := .frz b2 (.tup [])) n2
    have s3 := same_new (o := .tup [.str "if", .str "yes", .str "nothing", .ref e1, .ref e2]) n3
    have s4 := same_new (o := .tup [.ref pc]) n4
    have s14 := ((s1.trans s2).trans s3).trans s4
    refine abs_heap (fun U => Same H U ∧ TrAt K U pc (.cond "yes" "nothing" [] []) ∧ SqT K U pm [.ref pc]) ⟨s14, ?_, SqT.of upd_same⟩ ?_
    · exact .cond (ps := []) (qs := []) (s4 _ _ upd_same) (oper_fixed "yes" (by decide)) (oper_fixed "nothing" (by decide)) (TX.sq ⟨b1, hb1, s4 _ _ (s3 _ _ (s2 _ _ upd_same))⟩) (TX.sq ⟨b2, hb2, s4 _ _ (s3 _ _ upd_same)⟩) .nil .nil
    rintro U4 ⟨sU, trm, sqm⟩
    have srcU := src.same sU
    refine ⟨_, rfl, _, rfl, a, rfl, srcU, fun z2 U5 nz2 src5 kb5 => ⟨_, rfl, _, rfl, (by show 3 ≤ sizeLine; decide), fun l1 nl1 => ?_⟩⟩
    have s6 := same_new (o := .lst [.str z2, .ref pt, .ref pb]) nl1
    have kp5 := (KpT.of_same sU).trans (srcU.kp kb5)
    have tx6 := TXkp tx (kp5.trans (KpT.of_same s6))
    refine ⟨_, rfl, _, rfl, pt, _, rfl, .inr tx6.sq, fun q1 nq1 => ⟨q1, _, rfl, SqL.of upd_same, fun pr ob hob npr => ⟨_, rfl, (by show 3 ≤ sizeLine; decide), fun l2 nl2 => ?_⟩⟩⟩
    have s7 := same_new (o := .lst (zs.map V.str)) nq1
    have s8 := same_new (o := .frz ob (.tup (zs.map V.str).reverse)) npr
    have s9 := same_new (o := .lst [.str z, .ref pr, .ref pb]) nl2
    have s69 := ((s6.trans s7).trans s8).trans s9
    have sq9 := (kp5.trans (KpT.of_same s69)).sq sq
    refine ⟨_, rfl, _, rfl, _, rfl, _, rfl, _, rfl, slX_ok sq9 fun px UA sA hA => ⟨(by show 3 ≤ sizeLine; decide), fun l3 nl3 => ⟨(by show 4 ≤ sizeLine; decide), fun f nf => ?_⟩⟩⟩
    have hA : SqT K UA px (cutV (ps.map V.ref) none (some (-1))) := hA
    rw [cut_neg, List.length_map, ← List.map_take] at hA
    have s10 := same_new (o := .lst [.str z, .ref pt, .ref px]) nl3
    have s11 := same_new (o := .lst [.ref l, .ref l1, .ref l2, .ref l3]) nf
    have sE := sA.trans (s10.trans s11)
    have s6E := s69.trans sE
    have kpE := kp5.trans (KpT.of_same s6E)
    refine abs_heap (fun U => KeepBut a U4 U ∧ Src U a ∧ ∃ (ls : List Addr) (ds : List D3), U f = some (.lst (ls.map V.ref)) ∧ DatsAt K U ls ds ∧ (∀ d ∈ ds, Good d) ∧ 1 ≤ ds.length ∧ ds.length ≤ 4) ⟨kb5.trans (KeepBut.of_same s6E), src5.same s6E, [l, l1, l2, l3], [⟨z, zs, ts⟩, ⟨z2, zs, ts⟩, ⟨z, zs.reverse, ts⟩, ⟨z, zs, ts.take (ps.length - 1)⟩], upd_same, ?_, ?_, (by show 1 ≤ 4; decide), (by show 4 ≤ 4; decide)⟩ ?_
    · refine .cons (((dat.same sU).mv srcU kb5).same s6E) (.cons ?_ (.cons ?_ (.cons ?_ .nil)))
      · exact ⟨pt, pb, (((s7.trans s8).trans s9).trans sE) _ _ upd_same, nz2, TXkp tx kpE, ⟨ps, kpE.sq sq, tr.mv kpE⟩⟩
      · refine ⟨pr, pb, sE _ _ upd_same, nz, ⟨ob, hob, ?_⟩, ⟨ps, kpE.sq sq, tr.mv kpE⟩⟩
        rw [List.map_reverse]
        exact sE _ _ (s9 _ _ upd_same)
      · exact ⟨pt, px, s11 _ _ upd_same, nz, TXkp tx kpE, ⟨ps.take (ps.length - 1), (KpT.of_same (s10.trans s11)).sq hA, (tr.mv kpE).take _⟩⟩
    · intro d hd
      rcases List.mem_cons.mp hd with rfl | hd
      · exact good
      rcases List.mem_cons.mp hd with rfl | hd
      · exact good
      rcases List.mem_cons.mp hd with rfl | hd
      · exact good.rev
      · rw [List.mem_singleton.mp hd]
        have es : ts = ts.take (ps.length - 1) ++ ts.drop (ps.length - 1) := (List.take_append_drop _ _).symm
        have b1 := lvB_app (ts.take (ps.length - 1)) (ts.drop (ps.length - 1))
        have b2 := amB_app (ts.take (ps.length - 1)) (ts.drop (ps.length - 1))
        have b3 := pcB_app (ts.take (ps.length - 1)) (ts.drop (ps.length - 1))
        have b4 := loB_app (ts.take (ps.length - 1)) (ts.drop (ps.length - 1))
        rw [← es] at b1 b2 b3 b4
        have c1 : lvB ts ≤ 5 := cg.lv
        have c3 : pcB ts ≤ 12 := cg.pc
        have c4 : loB ts = false := cg.lo
        have c5 : okB ts = true := cg.ok
        rw [c4] at b4
        refine Good.parts good (by omega) (by omega) (by omega) (Bool.or_eq_false_iff.mp b4.symm).1 ?_ fun t ht => .inl (List.mem_of_mem_take ht)
        rw [okB_all] at c5 ⊢
        exact List.all_eq_true.mpr fun t ht => List.all_eq_true.mp c5 t (List.mem_of_mem_take ht)
    rintro U6 ⟨kb6, src6, ls, ds, hf6, dats6, gd6, d1, d4⟩
    have kp6 := (KpT.of_same sU).trans (srcU.kp kb6)
    refine ⟨_, rfl, pb, ps, ts, rfl, .inr (kp6.sq sq), tr.mv kp6, (by have : lvB ts ≤ 5 := cg.lv; omega), by omega, fun U7 s7' => ⟨_, _, rfl, rfl, _, rfl, ?_⟩⟩
    refine ite_joinS (fun σ U => ∃ f, σ = [some (.ref a), some (.ref l), some (.str z), some (.ref pt), some (.ref pb), some (.ref pm), some (.ref f)] ∧ KeepBut a U4 U ∧ Src U a ∧ ∃ (ls : List Addr) (ds : List D3), U f = some (.lst (ls.map V.ref)) ∧ DatsAt K U ls ds ∧ (∀ d ∈ ds, Good d) ∧ 1 ≤ ds.length ∧ ds.length ≤ 6) (fun hc rest => ?_) ⟨f, rfl, kb6.trans (KeepBut.of_same s7'), src6.same s7', ls, ds, s7' _ _ hf6, dats6.same s7', gd6, d1, by omega⟩ ?_
    · have hc : amB ts < 40 := by
        have hc := of_decide_eq_true hc
        omega
      have kp7 := kp6.trans (KpT.of_same s7')
      have kpm := (srcU.kp kb6).trans (KpT.of_same s7')
      have lz : ∀ z : List Addr, (z.map V.ref).length = z.length := fun z => List.length_map ..
      have l1 := dats6.len
      have more : ∀ us : List Tr, (us = ts ++ [.cond "yes" "nothing" [] []] ∨ us = [.cond "yes" "nothing" [] []] ++ ts) → Good ⟨z, zs, us⟩ := by
        intro us hu
        have c1 : lvB ts ≤ 5 := cg.lv
        have c3 : pcB ts ≤ 12 := cg.pc
        have c4 : loB ts = false := cg.lo
        have c5 : okB ts = true := cg.ok
        have m1 : lvB [.cond "yes" "nothing" [] []] = 1 := by rw [lvB_cons, lvB_nil, lvT, lvB_nil]; rfl
        have m2 : amB [.cond "yes" "nothing" [] []] = 1 := by rw [amB_cons, amB_nil, amT, amB_nil]
        have m3 : pcB [.cond "yes" "nothing" [] []] = 0 := by rw [pcB_cons, pcB_nil, pcT, pcB_nil]
        have m4 : loB [.cond "yes" "nothing" [] []] = false := by rw [loB_cons, loB_nil, loT, loB_nil]; rfl
        have m5 : okT (.cond "yes" "nothing" [] []) = true := by rw [okT, okB_nil]; rfl
        rcases hu with rfl | rfl
        · refine Good.parts good ?_ ?_ ?_ ?_ ?_ ?_
          · rw [lvB_app, m1]; omega
          · rw [amB_app, m2]; omega
          · rw [pcB_app, m3]; omega
          · rw [loB_app, m4, c4]; rfl
          · rw [okB_all] at c5 ⊢
            rw [List.all_append, c5]
            simp [m5]
          · intro t ht
            rcases List.mem_append.mp ht with ht | ht
            · exact .inl ht
            · exact .inr (List.mem_singleton.mp ht)
        · refine Good.parts good ?_ ?_ ?_ ?_ ?_ ?_
          · rw [lvB_app, m1]; omega
          · rw [amB_app, m2]; omega
          · rw [pcB_app, m3]; omega
          · rw [loB_app, m4, c4]; rfl
          · rw [okB_all] at c5 ⊢
            rw [List.all_append, c5]
            simp [m5]
          · intro t ht
            rcases List.mem_append.mp ht with ht | ht
            · exact .inr (List.mem_singleton.mp ht)
            · exact .inl ht
      refine ⟨_, rfl, _, rfl, _, rfl, _, rfl, _, rfl, catX_ok (kp7.sq sq) (kpm.sq sqm) (by rw [lz]; exact len5000 (by show ps.length + 1 ≤ 5000; omega)) fun p1 V1 t1 h1 => ⟨(by show 3 ≤ sizeLine; decide), fun l4 nl4 => ?_⟩⟩
      have u1 := t1.trans (same_new (o := .lst [.str z, .ref pt, .ref p1]) nl4)
      refine ⟨_, rfl, _, rfl, _, rfl, _, rfl, catX_ok ((kpm.trans (KpT.of_same u1)).sq sqm) ((kp7.trans (KpT.of_same u1)).sq sq) (by rw [lz]; exact len5000 (by show 1 + ps.length ≤ 5000; omega)) fun p2 V2 t2 h2 => ⟨(by show 3 ≤ sizeLine; decide), fun l5 nl5 => ⟨(by show 2 ≤ sizeLine; decide), fun lq nlq => ?_⟩⟩⟩
      have u2 := same_new (o := .lst [.str z, .ref pt, .ref p2]) nl5
      have u3 := same_new (o := .lst [.ref l4, .ref l5]) nlq
      have u23 := (t2.trans u2).trans u3
      refine ⟨f, lq, _, _, rfl, rfl, u23 _ _ (u1 _ _ (s7' _ _ hf6)), upd_same, by rw [lz]; exact len5000 (by show _ + 2 ≤ 5000; omega), fun f2 nf2 => ?_⟩
      have u4 := same_new (o := .lst (ls.map V.ref ++ [.ref l4, .ref l5])) nf2
      have uE := (u1.trans u23).trans u4
      have kpE2 := kp7.trans (KpT.of_same uE)
      refine rest _ _ ⟨f2, rfl, kb6.trans (KeepBut.of_same (s7'.trans uE)), src6.same (s7'.trans uE), ls ++ [l4, l5], ds ++ [⟨z, zs, ts ++ [.cond "yes" "nothing" [] []]⟩, ⟨z, zs, [.cond "yes" "nothing" [] []] ++ ts⟩], ?_, ?_, ?_, ?_, ?_⟩
      · rw [upd_same, List.map_append]
        rfl
      · have trE := tr.mv kpE2
        have tmE := trm.mv (kpm.trans (KpT.of_same uE))
        refine (dats6.same (s7'.trans uE)).app (.cons ⟨pt, p1, ?_, nz, TXkp tx kpE2, ⟨ps ++ [pc], ?_, trE.app (.cons tmE .nil)⟩⟩ (.cons ⟨pt, p2, ?_, nz, TXkp tx kpE2, ⟨[pc] ++ ps, ?_, (TrsAt.cons tmE .nil).app trE⟩⟩ .nil))
        · exact u4 _ _ (u23 _ _ upd_same)
        · rw [List.map_append]
          exact (KpT.of_same ((same_new nl4).trans (u23.trans u4))).sq h1
        · exact u4 _ _ (u3 _ _ upd_same)
        · rw [List.map_append]
          exact (KpT.of_same ((u2.trans u3).trans u4)).sq h2
      · intro d hd
        rcases List.mem_append.mp hd with hd | hd
        · exact gd6 d hd
        · rcases List.mem_cons.mp hd with rfl | hd
          · exact more _ (.inl rfl)
          · rw [List.mem_singleton.mp hd]
            exact more _ (.inr rfl)
      · rw [List.length_append]
        omega
      · rw [List.length_append]
        show ds.length + 2 ≤ 6
        omega
    rintro σ U8 ⟨f8, rfl, kb8, src8, ls8, ds8, hf8, dats8, gd8, e1, e6⟩
    have lz : ∀ z : List Addr, (z.map V.ref).length = z.length := fun z => List.length_map ..
    have l1 := dats8.len
    refine ⟨_, rfl, _, rfl, Nat.zero_le _, fun t1 o1 ho1 m1 => ⟨Nat.zero_le _, fun t2 o2 ho2 m2 => ⟨(by show 3 ≤ sizeLine; decide), fun l4 nl4 => ?_⟩⟩⟩
    refine ⟨_, rfl, (by show 1 ≤ sizeLine; decide), fun t3 o3 ho3 m3 => ⟨Nat.zero_le _, fun t4 o4 ho4 m4 => ⟨(by show 3 ≤ sizeLine; decide), fun l5 nl5 => ⟨(by show 2 ≤ sizeLine; decide), fun lq nlq => ?_⟩⟩⟩⟩
    have v1 := same_new (o := .frz o1 (.tup [])) m1
    have v2 := same_new (o := .frz o2 (.tup [])) m2
    have v3 := same_new (o := .lst [.str z, .ref t1, .ref t2]) nl4
    have v4 := same_new (o := .frz o3 (.tup [.str "p"])) m3
    have v5 := same_new (o := .frz o4 (.tup [])) m4
    have v6 := same_new (o := .lst [.str z, .ref t3, .ref t4]) nl5
    have v7 := same_new (o := .lst [.ref l4, .ref l5]) nlq
    have v17 := (((((v1.trans v2).trans v3).trans v4).trans v5).trans v6).trans v7
    refine ⟨f8, lq, _, _, rfl, rfl, v17 _ _ hf8, upd_same, by rw [lz]; exact len5000 (by show _ + 2 ≤ 5000; omega), fun f9 nf9 => ?_⟩
    have v8 := same_new (o := .lst (ls8.map V.ref ++ [.ref l4, .ref l5])) nf9
    have v18 := v17.trans v8
    have v58 := ((v5.trans v6).trans v7).trans v8
    have v38 := (v3.trans v4).trans v58
    refine q f9 (ls8 ++ [l4, l5]) (ds8 ++ [⟨z, [], []⟩, ⟨z, ["p"], []⟩]) _ ?_ ?_ ?_ ?_ ?_ (src8.same v18) (((KeepBut.of_same sU).trans kb8).trans (KeepBut.of_same v18))
    · rw [upd_same, List.map_append]
      rfl
    · refine (dats8.same v18).app (.cons ⟨t1, t2, ?_, nz, ⟨o1, ho1, ?_⟩, ⟨[], TX.sq ⟨o2, ho2, ?_⟩, .nil⟩⟩ (.cons ⟨t3, t4, ?_, nz, ⟨o3, ho3, ?_⟩, ⟨[], TX.sq ⟨o4, ho4, ?_⟩, .nil⟩⟩ .nil))
      · exact (v4.trans v58) _ _ upd_same
      · exact (v2.trans v38) _ _ upd_same
      · exact v38 _ _ upd_same
      · exact (v7.trans v8) _ _ upd_same
      · exact v58 _ _ upd_same
      · exact ((v6.trans v7).trans v8) _ _ upd_same
    · intro d hd
      rcases List.mem_append.mp hd with hd | hd
      · exact gd8 d hd
      · rcases List.mem_cons.mp hd with rfl | hd
        · exact Good.nil (.inl rfl)
        · rw [List.mem_singleton.mp hd]
          exact Good.nil (.inr rfl)
    · rw [List.length_append]
      omega
    · rw [List.length_append]
      show ds8.length + 2 ≤ 8
      omega
end
end K07
set_option Elab.async false
set_option linter.all false
set_option maxRecDepth 100000
set_option maxHeartbeats 4000000
namespace K07
open PySem PySem.Spec PyProof.Rows L2 Mo
theorem pre_nil (rs : List Str) : pre "" rs = rs := by
  unfold pre
  have : (fun r : Str => ("" : Str) ++ r) = id := by
    funext r
    exact str_ext (by simp only [cp, cps_app]; rfl)
  rw [this, List.map_id]
theorem jn_cps (y : Str) : ∀ l : List Str, ∀ c ∈ (Str.join y l).cps.toList, c ∈ y.cps.toList ∨ ∃ x ∈ l, c ∈ x.cps.toList
  | [], c, h => by
    have : (Str.join y []).cps.toList = [] := rfl
    rw [this] at h
    exact (List.not_mem_nil h).elim
  | [x], c, h => .inr ⟨x, List.mem_cons_self, h⟩
  | x :: z :: r, c, h => by
    have e : Str.join y (x :: z :: r) = x ++ y ++ Str.join y (z :: r) := rfl
    rw [e, cps_app, cps_app] at h
    rcases List.mem_append.mp h with h | h
    · rcases List.mem_append.mp h with h | h
      · exact .inr ⟨x, List.mem_cons_self, h⟩
      · exact .inl h
    · rcases jn_cps y (z :: r) c h with h | ⟨u, hu, h⟩
      · exact .inl h
      · exact .inr ⟨u, List.mem_cons_of_mem _ hu, h⟩
theorem jn_len (y : Str) : ∀ l : List Str, (Str.join y l).length ≤ (l.map (·.length)).sum + l.length * y.length
  | [] => Nat.zero_le _
  | [x] => by
    show x.length ≤ _
    simp
  | x :: z :: r => by
    have h := jn_len y (z :: r)
    have e : Str.join y (x :: z :: r) = x ++ y ++ Str.join y (z :: r) := rfl
    rw [e, app_length, app_length, List.map_cons, List.sum_cons, List.length_cons, Nat.succ_mul]
    omega
theorem its_len : ∀ (cl : List Nat) (ds : List PyData), (its cl ds).length ≤ (ds.map fun d => d.shown.length + 2).sum + cl.length
  | cl, [] => by
    show cl.length ≤ _
    omega
  | cl, [d] => by
    show (cp d.shown ++ cl).length ≤ _
    rw [List.length_append]
    have : (cp d.shown).length = d.shown.length := Array.length_toList
    simp only [List.map_cons, List.map_nil, List.sum_cons, List.sum_nil]
    omega
  | cl, d :: e :: ds => by
    have h := its_len cl (e :: ds)
    show (cp d.shown ++ ([44, 32] ++ its cl (e :: ds))).length ≤ _
    rw [List.length_append, List.length_append, List.map_cons, List.sum_cons]
    have : (cp d.shown).length = d.shown.length := Array.length_toList
    have h3 : ([44, 32] : List Nat).length = 2 := rfl
    omega
theorem list_len (ds : List PyData) : (PyData.list ds).shown.length ≤ (ds.map fun d => d.shown.length + 2).sum + 2 := by
  have e : (cp (PyData.list ds).shown).length = (PyData.list ds).shown.length := Array.length_toList
  rw [cp_list] at e
  have := its_len [93] ds
  have h3 : ([93] : List Nat).length = 1 := rfl
  rw [List.length_cons] at e
  omega
theorem join_ok {rows : List Str} (n : Nat) (h : rows.length ≤ n) (a : ∀ r ∈ rows, r.length ≤ 212 ∧ AlnT r) : (reprText (Txt.join "\n" rows)).length ≤ 10 * (n * 213) + 2 := by
  rw [TL.join_eq]
  have l := jn_len "\n" rows
  have sm := sum_len (n := 212) fun r hr => (a r hr).1
  have e : ("\n" : Str).length = 1 := rfl
  rw [e] at l
  refine Nat.le_trans (StrLaws.reprText_len _ fun c hc => ?_) ?_
  · rcases jn_cps "\n" rows c hc with h | ⟨x, hx, h⟩
    · have : ("\n" : Str).cps.toList = [10] := by decide +kernel
      rw [this] at h
      rw [List.mem_singleton.mp h]
      decide
    · have := aln_lt ((a x hx).2 c h)
      exact Nat.lt_trans this (by decide)
  · have : (Str.join "\n" rows).length ≤ n * 213 := by
      have := Nat.mul_le_mul_right 213 h
      omega
    omega
theorem cell_name {u : Tr} {z : Str} (h : wf1 u) (e : (fdT u).cell = some z) : NameT z := by
  cases u with
  | one k xs l =>
    have o : One k xs l := h
    cases o
    case look hc hi => cases e; exact hc
    case put hc ho => cases e; exact hc
    case swap hc ho hi => cases e; exact hc
    case try_ hc ho hn hi => cases e; exact hc
    case let_ hi ho => cases e
    case leave => cases e
    case ret ho => cases e
  | cond l r b e' => cases e
  | loop b => cases e
  | joined b => cases e
def toldC (z : Str) (zs ss rs : List Str) (n : Nat) (x : Str) : PyData := .list [.str z, .tuple (zs.map PyData.str), .tuple (ss.map PyData.str), .tuple (rs.map PyData.str), .int (n : Nat), .str x]
theorem wt_strs : ∀ l : List Str, (∀ x ∈ l, x.length ≤ 8) → wtAll (l.map PyData.str) ≤ l.length * 12
  | [], _ => by
    rw [List.map_nil, wtAll]
    exact Nat.zero_le _
  | x :: l, h => by
    have h1 := wt_strs l fun y hy => h y (List.mem_cons_of_mem _ hy)
    have h2 := h x (List.mem_cons_self ..)
    rw [List.map_cons, wtAll_cons, wt, List.length_cons]
    omega
theorem toldC_ok {z : Str} {zs ss rs : List Str} {n : Nat} {x : Str} (hz : NameT z) (hzs : ∀ y ∈ zs, NameT y) (hss : ∀ y ∈ ss, NameT y) (hrs : ∀ y ∈ rs, NameT y) (l1 : zs.length ≤ 3) (l2 : ss.length ≤ 3) (l3 : rs.length ≤ 3) (hn : n ≤ 40) (hx : (reprText x).length ≤ 200000) :
    (toldC z zs ss rs n x).showable = true ∧ (toldC z zs ss rs n x).hasDict = false ∧ (toldC z zs ss rs n x).depth ≤ 60 ∧ (toldC z zs ss rs n x).shown.length ≤ sizeLine := by
  have p0 : Pl (.str z) := by rw [Pl]; exact hz.2.1
  have pt : ∀ l : List Str, (∀ y ∈ l, NameT y) → Pl (.tuple (l.map PyData.str)) := fun l h => by rw [Pl]; exact plAll_strs fun y hy => (h y hy).2.1
  have p1 := pt zs hzs
  have p2 := pt ss hss
  have p3 := pt rs hrs
  have q0 := show_plain p0
  have q1 := show_plain p1
  have q2 := show_plain p2
  have q3 := show_plain p3
  have lg : ((n : Nat) : Int).natAbs.log2 < 1920 := log40 hn
  refine ⟨?_, ?_, ?_, ?_⟩
  · unfold toldC
    rw [PyData.showable, PyData.showableAll, PyData.showableAll, PyData.showableAll, PyData.showableAll, PyData.showableAll, PyData.showableAll, PyData.showableAll, q0.1, q1.1, q2.1, q3.1]
    simp only [PyData.showable, decide_eq_true lg]
    rfl
  · unfold toldC
    rw [PyData.hasDict, PyData.hasDictAll, PyData.hasDictAll, PyData.hasDictAll, PyData.hasDictAll, PyData.hasDictAll, PyData.hasDictAll, PyData.hasDictAll, q0.2, q1.2, q2.2, q3.2]
    rfl
  · unfold toldC
    simp only [PyData.depth, PyData.depthAll, depth_strs]
    decide
  · refine Nat.le_trans (list_len _) ?_
    have w0 := shown_len p0
    have w1 := shown_len p1
    have w2 := shown_len p2
    have w3 := shown_len p3
    rw [wt_tup] at w1 w2 w3
    have v1 := wt_strs zs fun y hy => (hzs y hy).2.2
    have v2 := wt_strs ss fun y hy => (hss y hy).2.2
    have v3 := wt_strs rs fun y hy => (hrs y hy).2.2
    rw [wt] at w0
    have pn : Pl (.int (n : Nat)) := by rw [Pl]; exact ⟨by omega, lg⟩
    have w4 := num40 n hn
    have e4 : (PyData.int ((n : Nat) : Int)).shown = (((toString ((n : Nat) : Int) : String) : Str)) := rfl
    have z8 := hz.2.2
    simp only [List.map_cons, List.map_nil, List.sum_cons, List.sum_nil, e4]
    have e5 : (PyData.str x).shown = reprText x := PyData.shown_str x
    rw [e5]
    have : (16777216 : Nat) = sizeLine := by decide
    omega
section
variable {w : World} {K : PySem.W.Frag} {mg : Str → Option Value} {base : Heap} {A : Ads}
def spShows (K : PySem.W.Frag) (A : Ads) : Sp := fun vs H Q _ => ∃ (p l : Addr) (c : Cl), vs = [.ref p, .ref l] ∧ CallAt K A H p c ∧ DatAt K H l c.z c.zs c.ts ∧ Good ⟨c.z, c.zs, c.ts⟩ ∧ ∀ H', Same H H' → Q (.bl true) H'
theorem ok_law_shows (T : Txt K mg A) : FnG P w K mg base CX0 13 A.a_law_shows A.d_law_shows ["_law_mine", "_law_made_here"] (spShows K A) := by
  have nd := sc_law_shows.nd
  refine Fun_okG T.f_law_shows sc_law_shows (fun vs H Q E h => ?_) (fun cdv A' outer s H vs Q E hr hG h => ?_)
  · obtain ⟨p, l, c, rfl, _⟩ := h
    rfl
  · obtain ⟨p, l, c, rfl, hc, dat, good, q⟩ := h
    have ⟨dx, fs, pp, pbC, pc, psl, pz, bs, h1, n, h2, h3, h4, h5, h6, h7, h8, h9, h10, h11, h12, h13, ok⟩ := hc
    have ⟨pt, pb, hl, nz, tx, ⟨ps, sq, tr⟩⟩ := dat
    have ⟨gs, rs, ng, cg⟩ := good
    have lv5 := ok.lv
    have am4 := ok.am
    refine ⟨_, (pss_cons (ps_asg (pv 1) (pg_unl rfl (pgs_cons (pg_name (i := 2) nd rfl (Or.inl rfl)) (pgs_cons (pg_name (i := 3) nd rfl (Or.inl rfl)) (pgs_cons (pg_name (i := 4) nd rfl (Or.inl rfl)) pgs_nil)))))
      (pss_cons (ps_set (i := 5) nd rfl (Or.inl rfl) (pe_lst (pa_cons (pe_fld (pv 0) rfl) (pa_cons (pe_fld (pv 0) rfl) (pa_cons (pe_fld (pv 0) rfl) (pa_cons (pe_prop (pv 0) T.cl_Call T.pr_Call_cells (ok_Call_cells T) (hr.mono (by decide)) T.v_Call_cells .nil pass0 rfl) (pa_cons (pe_prop (pv 0) T.cl_Call T.pr_Call_steps (ok_Call_steps T) (hr.mono (by decide)) T.v_Call_steps .nil pass0 rfl) (pa_cons (pe_callTy (call_strF (CC := fun C => C = A.c_Call) (ok_Call___str__ T) (hr.mono (by decide)) (fun C h => h ▸ T.sp_Call___str__) T.v_Call___str__ pass0) (by rfl) T.b_str (by decide +kernel) (pa_cons (pv 0) pa_nil)) pa_nil))))))))
      (pss_cons (ps_set (i := 6) nd rfl (Or.inl rfl) (pe_call (ok_law_paces T 8) (hr.mono (by decide)) (by rfl) T.m_law_paces T.k_law_paces T.v_law_paces .nil pass0 (pa_cons (pv 4) pa_nil)))
      (pss_cons (ps_set (i := 7) nd rfl (Or.inl rfl) (pe_call (ok_law_paper T) (hr.mono (by decide)) (by rfl) T.m_law_paper T.k_law_paper T.v_law_paper .nil pass0 (pa_cons (pv 1) pa_nil)))
      (pss_cons (ps_if (pt_cmpR op_ne (pe_callB (call_repr hr hG) (by rfl) T.b_repr (by decide +kernel) (pa_cons (pv 5) pa_nil)) (pe_callB (call_repr hr hG) (by rfl) T.b_repr (by decide +kernel) (pa_cons (pe_lst (pa_cons (pv 2) (pa_cons (pv 3) (pa_cons (pe_call (ok_law_slots T) (hr.mono (by decide)) (by rfl) T.m_law_slots T.k_law_slots T.v_law_slots .nil pass0 (pa_cons (pv 3) (pa_cons (pv 4) pa_nil))) (pa_cons (pe_call (ok_law_rooms T) (hr.mono (by decide)) (by rfl) T.m_law_rooms T.k_law_rooms T.v_law_rooms .nil pass0 (pa_cons (pv 4) pa_nil)) (pa_cons (pv 6) (pa_cons (pv 7) pa_nil))))))) pa_nil)) (nomark _)) (pss_one (ps_ret pe_bl)) pss_nil)
      (pss_cons (ps_if (PW.pt (pw_or (pt_not (pt_val (pe_callB call_isi (by rfl) T.b_isinstance (by decide +kernel) (pa_cons (pe_fld (pv 0) rfl) (pa_cons (pe_ty "tuple" T.b_tuple) pa_nil))))) (pw_or1 (pt_cmpR op_ne (pe_callB call_len_seq (by rfl) T.b_len (by decide +kernel) (pa_cons (pe_fld (pv 0) rfl) pa_nil)) (pe_callB call_len_seq (by rfl) T.b_len (by decide +kernel) (pa_cons (pv 4) pa_nil)) (nomark _))))) (pss_one (ps_ret pe_bl)) pss_nil)
      (pss_cons (ps_if (pt_cmpR (op_neD hr.units) (pe_prop (pv 0) T.cl_Call T.pr_Call_lines (ok_Call_lines T) (hr.mono (by decide)) T.v_Call_lines .nil pass0 rfl) (pe_callTy call_tuple_of (by rfl) T.b_tuple (by decide +kernel) (pa_cons (pe_split (pv 7) pe_str) pa_nil)) (nomark _)) (pss_one (ps_ret pe_bl)) pss_nil)
      (pss_cons (ps_for PassesOwn.never rfl (pi_range1 (by rfl) T.b_range (pa_cons (pe_callB call_len_seq (by rfl) T.b_len (by decide +kernel) (pa_cons (pv 4) pa_nil)) pa_nil)) (pg_name (i := 8) nd rfl (Or.inl rfl)) (pss_one (ps_if (PW.pt (pw_or (pt_cmpR op_ne (pe_callTy (call_strF (ok_Statement___str__ T) (hr.mono (by decide)) T.sp_Statement___str__ T.v_Statement___str__ pass0) (by rfl) T.b_str (by decide +kernel) (pa_cons (pe_ix ix_tup (pe_fld (pv 0) rfl) (pv 8) (fun _ _ => rfl)) pa_nil)) (pe_join pe_str (pe_call (ok_law_lines T 8) (hr.mono (by decide)) (by rfl) T.m_law_lines T.k_law_lines T.v_law_lines .nil pass0 (pa_cons (pe_tup (pa_cons (pe_ix ix_tup (pv 4) (pv 8) (fun _ _ => rfl)) pa_nil)) (pa_cons pe_str pa_nil)))) (nomark _)) (pw_or1 (pt_cmpR op_ne (pe_con (pe_ix ix_tup (pe_fld (pv 0) rfl) (pv 8) (fun _ _ => rfl)) rfl) (pe_ix ix_tup (pe_ix ix_tup (pv 4) (pv 8) (fun _ _ => rfl)) pe_int (fun _ _ => rfl)) (nomark _))))) (pss_one (ps_ret pe_bl)) pss_nil)))
      (pss_one (ps_ret (pe_cmpR op_eq (pe_callB (call_reprF (CC := fun C => C = A.c_Call) (ok_Call___repr__ T) (hr.mono (by decide)) (fun C h => h ▸ T.sp_Call___repr__) T.v_Call___repr__ pass0) (by rfl) T.b_repr (by decide +kernel) (pa_cons (pv 0) pa_nil)) (pe_op op_add_str (pe_op op_add_str (pe_op op_add_str (pe_op op_add_str pe_str (pe_callTy call_str_int (by rfl) T.b_str (by decide +kernel) (pa_cons (pe_call (ok_law_size T 8) (hr.mono (by decide)) (by rfl) T.m_law_size T.k_law_size T.v_law_size .nil pass0 (pa_cons (pv 4) pa_nil)) pa_nil))) pe_str) (pe_callTy call_str_int (by rfl) T.b_str (by decide +kernel) (pa_cons (pv 6) pa_nil))) pe_str) (nomark _)))))))))))), ?_⟩
    refine ⟨_, rfl, l, _, rfl, SqL.of hl, rfl, _, _, rfl, _, _, rfl, _, _, rfl, rfl, ?_⟩
    refine ⟨_, rfl, p, A.c_Call, dx, fs, _, rfl, h1, T.cl_Call, T.na_Call_name, h2, _, rfl, p, A.c_Call, dx, fs, _, rfl, h1, T.cl_Call, T.na_Call_parameters, h3, _, rfl, p, A.c_Call, dx, fs, _, rfl, h1, T.cl_Call, T.na_Call_slots, h10, ?_⟩
    refine ⟨_, rfl, p, dx, fs, rfl, h1, p, c, rfl, hc, fun pcl hpc => ?_⟩
    refine ⟨_, rfl, p, dx, fs, rfl, h1, p, c, rfl, hc, ?_⟩
    refine ⟨_, rfl, p, A.c_Call, dx, fs, rfl, rfl, h1, p, c, rfl, hc, fun H1 s1 => ⟨_, rfl, (by show 6 ≤ sizeLine; decide), fun l1 nl1 => ?_⟩⟩
    have s2 := same_new (o := .lst [.str c.z, .ref pp, .ref psl, .ref pcl, .int (pcB c.ts : Nat), .str (textC c)]) nl1
    have s12 := s1.trans s2
    refine ⟨_, rfl, pb, ps, c.ts, rfl, .inr ((KpT.of_same s12).sq sq), tr.mv (KpT.of_same s12), by omega, by omega, fun H3 s3 => ?_⟩
    have s13 := s12.trans s3
    refine ⟨_, rfl, l, c.z, c.zs, c.ts, rfl, dat.same s13, ok.few, ok.tags, by omega, by omega, fun H4 s4 => ?_⟩
    have s14 := s13.trans s4
    have ep : paperF c.z c.zs c.ts = textC c := rfl
    -- what is told
    have lok := linesC_ok ok h7
    have tx_len : (reprText (textC c)).length ≤ 200000 := Nat.le_trans (join_ok (rows := linesC c) 81 lok.2 lok.1) (by decide)
    have ss_nm : ∀ y ∈ slotsF c.zs (allB c.ts), NameT y := by
      intro y hy
      obtain ⟨⟨u, hu, hm⟩, hf, hz⟩ := slots_mem.mp hy
      rcases (cg.us u hu).1 y hm with h | h
      · exact ng.nm y h
      · rw [hf] at h
        cases h
    have rs_nm : ∀ y ∈ c.rs, NameT y := by
      intro y hy
      obtain ⟨u, hu, e⟩ := (ok.rs.2.2 y).mp hy
      exact cell_name (ok.wf u hu) e
    have rl : c.rs.length ≤ 3 := by
      obtain ⟨cs, l3, h⟩ := ok.rooms
      exact Nat.le_trans (ok.rs.few h) l3
    have tok := toldC_ok (n := pcB c.ts) (x := textC c) ok.nm ok.tags ss_nm rs_nm (by have := ok.few; omega) ok.slots rl (by have := ok.pc; omega) tx_len
    have dp6 : ∀ (U : Hp) (a1 a2 a3 : Addr), SqT K U a1 (c.zs.map V.str) → SqT K U a2 ((slotsF c.zs (allB c.ts)).map V.str) → SqT K U a3 (c.rs.map V.str) → DpAll K U [.str c.z, .ref a1, .ref a2, .ref a3, .int (pcB c.ts : Nat), .str (textC c)] [.str c.z, .tuple (c.zs.map PyData.str), .tuple ((slotsF c.zs (allB c.ts)).map PyData.str), .tuple (c.rs.map PyData.str), .int (pcB c.ts : Nat), .str (textC c)] :=
      fun U a1 a2 a3 q1 q2 q3 => .cons (.str _) (.cons (.tup q1 (dp_strs _)) (.cons (.tup q2 (dp_strs _)) (.cons (.tup q3 (dp_strs _)) (.cons (.int _) (.cons (.str _) .nil)))))
    have kp4 := KpT.of_same s14
    refine ⟨_, rfl, l1, toldC c.z c.zs (slotsF c.zs (allB c.ts)) c.rs (pcB c.ts) (textC c), rfl, .lst (SqL.of ((s3.trans s4) _ _ upd_same)) (dp6 _ _ _ _ (kp4.sq h4) (kp4.sq h11) (kp4.sq hpc)), tok.1, tok.2.1, tok.2.2.1, tok.2.2.2, ?_⟩
    refine ⟨_, rfl, _, rfl, _, rfl, _, rfl, pt, pb, c.zs, c.ts, rfl, kp4.sq tx.sq, ⟨ps, kp4.sq sq, tr.mv kp4⟩, by omega, by omega, fun q1 H5 s5 k5 => ?_⟩
    have s15 := s14.trans s5
    refine ⟨_, rfl, pb, c.ts, rfl, ⟨ps, (KpT.of_same s15).sq sq, tr.mv (KpT.of_same s15)⟩, by omega, by omega, fun q2 rs2 H6 s6 k6 ro => ⟨_, rfl, _, rfl, (by show 6 ≤ sizeLine; decide), fun l2 nl2 => ?_⟩⟩
    have er : rs2 = c.rs := ro.one ok.rs
    subst er
    have s7 := same_new (o := .lst [.str c.z, .ref pt, .ref q1, .ref q2, .int (pcB c.ts : Nat), .str (paperF c.z c.zs c.ts)]) nl2
    have s57 := (s5.trans s6).trans s7
    have s17 := s14.trans s57
    refine ⟨l2, toldC c.z c.zs (slotsF c.zs (allB c.ts)) c.rs (pcB c.ts) (textC c), rfl, .lst (SqL.of upd_same) (dp6 _ _ _ _ ((KpT.of_same s17).sq tx.sq) ((KpT.of_same (s6.trans s7)).sq k5) ((KpT.of_same s7).sq k6)), tok.1, tok.2.1, tok.2.2.1, tok.2.2.2, ?_⟩
    refine ⟨rfl, _, rfl, (if_neg (by show ¬ (!decide _) = true; rw [decide_eq_true rfl]; decide)).mpr ?_⟩
    have hc7 := hc.mv (KpT.of_same s17)
    have h17 := s17 _ _ h1
    have sq7 : SqT K _ pb (ps.map V.ref) := (KpT.of_same s17).sq sq
    have sqC7 : SqT K _ pbC (bs.map V.ref) := (KpT.of_same s17).sq h6
    have lbs := h7.len
    have lps := tr.len
    refine ⟨_, rfl, p, A.c_Call, dx, fs, _, rfl, h17, T.cl_Call, T.na_Call_body, h5, _, _, _, _, _, rfl, .ty _, sqt_ty sqC7, kit7 .tup .tup (by decide), _, rfl, ?_⟩
    refine ⟨_, rfl, p, A.c_Call, dx, fs, _, rfl, h17, T.cl_Call, T.na_Call_body, h5, pbC, _, rfl, .inr sqC7, _, rfl, pb, _, rfl, .inr sq7, rfl, _, rfl, (if_neg (by show ¬ (!decide _) = true; rw [List.length_map, List.length_map, lbs, lps, decide_eq_true rfl]; decide)).mpr ?_⟩
    refine ⟨_, rfl, p, dx, fs, rfl, h17, p, c, rfl, hc7, fun ll U1 u1 hll => ?_⟩
    have spl : Txt.split (textC c) "\n" = linesC c := TL.split_join (s := 10) (S := []) rfl (by decide +kernel) (by unfold linesC; simp) fun r hr h10 => by
      have := (lok.1 r hr).2 10 h10
      revert this
      decide
    have tl2 : (textC c).length ≤ 200000 := by
      have := StrLaws.reprText_len
      have j := jn_len "\n" (linesC c)
      have sm := sum_len (n := 212) fun r hr => (lok.1 r hr).1
      have e : ("\n" : Str).length = 1 := rfl
      unfold textC
      rw [TL.join_eq]
      rw [e] at j
      have := lok.2
      omega
    have big : (16777216 : Nat) = sizeLine := by decide
    refine ⟨_, rfl, ⟨_, rfl⟩, textC c, "\n", rfl, rfl, rfl, by omega, fun lp nlp => ⟨lp, _, rfl, .inl ⟨SqL.of upd_same, fun tp ntp => ?_⟩⟩⟩
    rw [spl] at ntp ⊢
    have u2 := same_new (o := .lst ((linesC c).map V.str)) nlp
    have u3 := same_new (o := .tup ((linesC c).map V.str)) ntp
    have shl := shaped_rows fun r hr => (lok.1 r hr).2
    refine ⟨rowsD (linesC c), rowsD (linesC c), .tup (SqT.of (u3 _ _ (u2 _ _ hll))) (dp_strs _), .tup (SqT.of upd_same) (dp_strs _), shl, shl, _, rfl, ?_⟩
    rw [SeqAt.eqv_refl _ (SeqAt.canLay_of_shaped shl)]
    have u13 := (u1.trans u2).trans u3
    have s18 := s17.trans u13
    have sq8 : SqT K _ pb (ps.map V.ref) := (KpT.of_same s18).sq sq
    refine ⟨_, rfl, pb, _, rfl, .inr sq8, _, rfl, by rw [List.length_map]; omega, by rw [List.length_map]; have := amB_len c.ts; omega, for_it (walk_range (lo := 0) (n := (ps.map V.ref).length)) (fun i σ U => Same H U ∧ ∃ v8 : Option V, σ = [some (.ref p), some (.ref l), some (.str c.z), some (.ref pt), some (.ref pb), some (.ref l1), some (.int (pcB c.ts : Nat)), some (.str (textC c)), v8]) ⟨s18, _, rfl⟩ (fun _ _ _ _ _ => trivial) ?_ ?_⟩
    · rintro i x σ U V' hi ⟨sU, v8, rfl⟩ ⟨rfl, rfl⟩
      have kU := KpT.of_same sU
      rw [List.length_map] at hi
      obtain ⟨pk, hpk⟩ : ∃ pk, ps[i]? = some pk := ⟨_, List.getElem?_eq_getElem hi⟩
      obtain ⟨rk, hrk⟩ : ∃ rk, bs[i]? = some rk := ⟨_, List.getElem?_eq_getElem (by omega)⟩
      obtain ⟨t, ht, trp⟩ := (tr.mv kU).get hpk
      obtain ⟨t', ht', stt⟩ := (h7.mv kU).get hrk
      rw [ht] at ht'
      obtain rfl : t = t' := Option.some.inj ht'
      obtain ⟨b1, o1, sa, _, _⟩ := stt.at
      have sa' := sa
      obtain ⟨C, dxr, fsr, ps1, pr, pb1, po1, k1, k2, k3, k4, k5', k6', k7, k8, k9, k10, k11, k12⟩ := sa'
      have mC := List.mem_of_getElem? k1
      have fc := T.fam C mC
      have at1 : atI (bs.map V.ref) (0 + ((i : Nat) : Int)) = some (V.ref rk) := by
        rw [Int.zero_add]
        exact atI_nat (j := i) (by rw [List.getElem?_map, hrk]; rfl)
      have at2 : atI (ps.map V.ref) (0 + ((i : Nat) : Int)) = some (V.ref pk) := by
        rw [Int.zero_add]
        exact atI_nat (j := i) (by rw [List.getElem?_map, hpk]; rfl)
      have lt := lvB_mem (List.mem_of_getElem? ht)
      have at_ := amB_mem (List.mem_of_getElem? ht)
      refine ⟨_, rfl, p, A.c_Call, dx, fs, _, rfl, sU _ _ h1, T.cl_Call, T.na_Call_body, h5, _, rfl, pbC, _, _, _, rfl, rfl, kU.sq h6, at1, rk, C, dxr, fsr, rfl, mC, k2, rk, sdT t, b1, o1, rfl, sa, _, rfl, ?_⟩
      refine ⟨⟨_, rfl⟩, _, rfl, _, rfl, pb, _, _, _, rfl, rfl, kU.sq sq, at2, (by show 1 ≤ sizeLine; decide), fun t1 nt1 => ?_⟩
      have v1 := same_new (o := .tup [.ref pk]) nt1
      refine ⟨t1, [pk], [t], "", rfl, .inr (SqT.of upd_same), .cons (trp.mv (KpT.of_same v1)) .nil, ?_, ?_, ?_, ?_, fun l' U2 u2 nl' hl' => ?_⟩
      · rw [lvB_cons, lvB_nil]
        omega
      · rw [lvB_cons, lvB_nil]
        omega
      · rw [amB_cons, amB_nil]
        omega
      · rw [lvB_cons, lvB_nil]
        show 0 + _ ≤ 100
        omega
      rw [rowsB_cons, rowsB_nil, List.append_nil, pre_nil] at hl'
      have rwt := trp.rows
      have rlt := rowsT_len t
      refine ⟨"\n", l', rowsT t, rfl, rfl, .inl (SqL.of hl'), ?_, rfl, _, rfl, (if_neg (by show ¬ (!decide (V.str (Txt.join "\n" (rowsT t)) = V.str (Txt.join "\n" (rowsT t)))) = true; rw [decide_eq_true rfl]; decide)).mpr ?_⟩
      · have sm := sum_len (n := 212) fun r hr => (show r.length ≤ 212 by have := (rwt r hr).1; omega)
        have e : ("\n" : Str).length = 1 := rfl
        rw [e]
        omega
      have sV := sU.trans (v1.trans u2)
      have kV := KpT.of_same sV
      have k2V := (v1.trans u2) _ _ k2
      obtain ⟨u, z', hz', con⟩ := con_k T k1
      obtain ⟨z, xs, hq, hz, k10'⟩ := (trp.mv (KpT.of_same (v1.trans u2))).hd
      have ez : z' = z := by
        have hz' : kwords[t.k]? = some z' := hz'
        rw [hz] at hz'
        exact (Option.some.inj hz').symm
      subst ez
      refine ⟨_, rfl, p, A.c_Call, dx, fs, _, rfl, sV _ _ h1, T.cl_Call, T.na_Call_body, h5, _, rfl, pbC, _, _, _, rfl, rfl, kV.sq h6, at1, rk, C, dxr, fsr, _, u, rfl, k2V, fc.cl, con, k11, ?_⟩
      refine ⟨_, rfl, _, rfl, pb, _, _, _, rfl, rfl, kV.sq sq, at2, pk, _, _, _, rfl, rfl, hq, atI_nat (j := 0) rfl, rfl, _, rfl, (if_neg (by show ¬ (!decide _) = true; rw [decide_eq_true rfl]; decide)).mpr ?_⟩
      exact ⟨sV, _, rfl⟩
    · rintro σ U ⟨sU, v8, rfl⟩
      have kU := KpT.of_same sU
      refine ⟨_, rfl, p, A.c_Call, dx, fs, rfl, rfl, sU _ _ h1, p, c, rfl, hc.mv kU, _, rfl, ?_⟩
      refine ⟨_, rfl, pb, ps, c.ts, rfl, .inr (kU.sq sq), tr.mv kU, by omega, by omega, fun U2 u2 => ⟨_, rfl, log40 am4, ?_⟩⟩
      have n1 := num40 (amB c.ts) am4
      have n2 := num40 (pcB c.ts) (by have := ok.pc; omega)
      have l1' : ("Call(" : Str).length = 5 := rfl
      have l2' : (" statements, " : Str).length = 13 := rfl
      have l3' : (" steps)" : Str).length = 7 := rfl
      have sz : ∀ n : Nat, n ≤ 200 → n ≤ sizeLine := fun n h => len5000 (by omega)
      have sU2 := sU.trans u2
      refine ⟨_, _, rfl, rfl, sz _ (by rw [l1']; omega), _, _, rfl, rfl, sz _ (by simp only [app_length, l1', l2']; omega), _, rfl, _, rfl, log40 (by have := ok.pc; omega), _, _, rfl, rfl, sz _ (by simp only [app_length, l1', l2']; omega), _, _, rfl, rfl, sz _ (by simp only [app_length, l1', l2', l3']; omega), rfl, ?_⟩
      show Q (.bl (decide (V.str (reprC (amB c.ts) (pcB c.ts)) = V.str (reprC (amB c.ts) (pcB c.ts))))) _
      rw [decide_eq_true rfl]
      exact q _ sU2
end
end K07
set_option Elab.async false
set_option linter.all false
set_option maxRecDepth 100000
set_option maxHeartbeats 4000000
namespace K07
open PySem PySem.Spec PyProof.Rows L2 Mo
theorem addK_nd {ks : List Str} {k : Str} (h : ks.Nodup) : (addK ks k).Nodup := by
  unfold addK
  split
  · exact h
  · rename_i hk
    refine List.nodup_append.mpr ⟨h, by simp, fun a ha b hb => ?_⟩
    rw [List.mem_singleton.mp hb]
    exact fun z => hk (z ▸ ha)
theorem addsK_nd : ∀ (xs : List Str) {ks : List Str}, ks.Nodup → (xs.foldl addK ks).Nodup
  | [], _, h => h
  | x :: xs, _, h => addsK_nd xs (addK_nd h)
theorem keysG_nd : ∀ (us : List Tr) {ks : List Str}, ks.Nodup → (us.foldl (fun ks u => (fdT u).ment.foldl addK ks) ks).Nodup
  | [], _, h => h
  | u :: us, _, h => keysG_nd us (addsK_nd _ h)
theorem slots_nd (zs : List Str) (us : List Tr) : (slotsF zs us).Nodup := by
  unfold slotsF keysF
  exact (keysG_nd us List.nodup_nil).filter _
theorem Good.cl {d : D3} (h : Good d) (nz : NameT d.z) : ∃ rs, ClOk ⟨d.z, d.zs, d.ts, rs⟩ ∧ okB d.ts = true := by
  obtain ⟨gs, rs, n, c⟩ := h
  obtain ⟨rm, hrm⟩ := rooms_ex (allB d.ts)
  obtain ⟨n1, n2, n3⟩ := List.nodup_append.mp n.nd
  refine ⟨rm, ⟨nz, n.z2, n1, fun z hz => n.nm z (List.mem_append_left _ hz), c.lv, c.am, c.pc, c.lo, fun u hu z e hz => ?_, ⟨rs, n.r3, fun u hu z e => (c.us u hu).2.2.1 z e⟩, ?_, fun u hu => (c.us u hu).2.2.2, hrm⟩, c.ok⟩
  · exact n3 z hz z ((c.us u hu).2.1 z e) rfl
  · refine Nat.le_trans (nodup_len (slots_nd d.zs (allB d.ts)) fun z hz => ?_) n.g3
    obtain ⟨⟨u, hu, hm⟩, hf, hz'⟩ := slots_mem.mp hz
    rcases (c.us u hu).1 z hm with h | h
    · exact (List.mem_append.mp h).resolve_left hz'
    · rw [hf] at h
      cases h
theorem text_split {c : Cl} (h : ∀ r ∈ linesC c, LineOk r) : Txt.split (textC c) "\n" = linesC c := TL.split_join (s := 10) (S := []) rfl (by decide +kernel) (by unfold linesC; simp) fun r hr h10 => by
  have := (h r hr).2 10 h10
  revert this
  decide
theorem text_inj {c d : Cl} (h : ∀ r ∈ linesC c, LineOk r) (g : ∀ r ∈ linesC d, LineOk r) : decide (V.str (textC c) = V.str (textC d)) = decide (linesC c = linesC d) := by
  by_cases e : linesC c = linesC d
  · rw [decide_eq_true e]
    unfold textC
    rw [e, decide_eq_true rfl]
  · rw [decide_eq_false e]
    refine decide_eq_false fun z => e ?_
    have z : textC c = textC d := by injection z
    rw [← text_split h, ← text_split g, z]
theorem bl_repr (b : Bool) : (PyData.list [.bool b, .bool (!b)]).showable = true ∧ (PyData.list [.bool b, .bool (!b)]).hasDict = false ∧ (PyData.list [.bool b, .bool (!b)]).depth ≤ 60 ∧ (PyData.list [.bool b, .bool (!b)]).shown.length ≤ sizeLine := by
  cases b
  · exact ⟨by decide +kernel, by decide +kernel, by decide +kernel, by decide +kernel⟩
  · exact ⟨by decide +kernel, by decide +kernel, by decide +kernel, by decide +kernel⟩
section
variable {w : World} {K : PySem.W.Frag} {mg : Str → Option Value} {base : Heap} {A : Ads}
/-- the calls made of the data -/
def MinesAt (K : PySem.W.Frag) (A : Ads) (H : Hp) (ms : List Addr) (ds : List D3) : Prop := ∀ (j : Nat) (m : Addr), ms[j]? = some m → ∃ (d : D3) (c : Cl), ds[j]? = some d ∧ CallAt K A H m c ∧ c.z = d.z ∧ c.zs = d.zs ∧ c.ts = d.ts
theorem MinesAt.mv {H H' : Hp} {ms : List Addr} {ds : List D3} (h : MinesAt K A H ms ds) (k : KpT H H') : MinesAt K A H' ms ds := fun j m e => let ⟨d, c, a1, a2, a3⟩ := h j m e; ⟨d, c, a1, a2.mv k, a3⟩
def spRight : Sp := fun vs H Q _ => ∃ a : Addr, vs = [.ref a] ∧ Src H a ∧ ∀ H', KeepBut a H H' → Q (.bl true) H'
theorem ok_law_right (T : Txt K mg A) : FnG P w K mg base CX0 26 A.a_law_right A.d_law_right ["_law_source_here"] spRight := by
  have nd := sc_law_right.nd
  refine Fun_okG T.f_law_right sc_law_right (fun vs H Q E h => ?_) (fun cdv A' outer s H vs Q E hr hG h => ?_)
  · obtain ⟨a, rfl, _⟩ := h
    rfl
  · obtain ⟨a, rfl, src, q⟩ := h
    refine ⟨_, (pss_cons (ps_set (i := 1) nd rfl (Or.inl rfl) (pe_call (ok_law_call T) (hr.mono (by decide)) (by rfl) T.m_law_call T.k_law_call T.v_law_call .nil pass0 (pa_cons (pv 0) (pa_cons pe_int (pa_cons pe_int pa_nil)))))
      (pss_cons (ps_set (i := 2) nd rfl (Or.inl rfl) (pe_call (ok_law_mates T) (hr.mono (by decide)) (by rfl) T.m_law_mates T.k_law_mates T.v_law_mates .nil pass0 (pa_cons (pv 0) (pa_cons (pv 1) pa_nil))))
      (pss_cons (ps_setLc (i := 3) (own := [("_law_item", 8)]) (g := gName 8) (tt := tYes) rfl nd rfl rfl (sw_true rfl rfl rfl (by decide +kernel)) (pi_list (pv 2)) (blkOk_by (N := nm_law_right) (sc := defScope st_law_right) (by decide +kernel)) (fun _ _ _ _ _ => (pg_name (i := 8) nd rfl (Or.inl rfl))) (fun _ _ _ _ _ => pts_nil) (fun _ _ _ _ _ => (pe_call (ok_law_built T) (hr.mono (by decide)) (by rfl) T.m_law_built T.k_law_built T.v_law_built .nil pass0 (pa_cons (pv 0) (pa_cons (pv 8) pa_nil)))))
      (pss_cons (ps_for PassesOwn.never rfl (pi_range1 (by rfl) T.b_range (pa_cons (pe_callB call_len_seq (by rfl) T.b_len (by decide +kernel) (pa_cons (pv 2) pa_nil)) pa_nil)) (pg_name (i := 4) nd rfl (Or.inl rfl)) (pss_cons (ps_if (PW.pt (pw_or (pt_cmpR op_isN (pe_ix ix_list (pv 3) (pv 4) (fun _ _ => rfl)) pe_non (nomark _)) (pw_or1 (pt_not (pt_val (pe_callG (ok_law_shows T) (hr.mono (by decide)) hG (by rfl) T.m_law_shows T.k_law_shows T.v_law_shows .nil pass0 (pa_cons (pe_ix ix_list (pv 3) (pv 4) (fun _ _ => rfl)) (pa_cons (pe_ix ix_list (pv 2) (pv 4) (fun _ _ => rfl)) pa_nil)))))))) (pss_one (ps_ret pe_bl)) pss_nil)
      (pss_one (ps_for PassesOwn.never rfl (pi_range1 (by rfl) T.b_range (pa_cons (pe_callB call_len_seq (by rfl) T.b_len (by decide +kernel) (pa_cons (pv 2) pa_nil)) pa_nil)) (pg_name (i := 6) nd rfl (Or.inl rfl)) (pss_cons (ps_set (i := 7) nd rfl (Or.inl rfl) (pe_cmpR op_eq (pe_call (ok_law_paper T) (hr.mono (by decide)) (by rfl) T.m_law_paper T.k_law_paper T.v_law_paper .nil pass0 (pa_cons (pe_ix ix_list (pv 2) (pv 4) (fun _ _ => rfl)) pa_nil)) (pe_call (ok_law_paper T) (hr.mono (by decide)) (by rfl) T.m_law_paper T.k_law_paper T.v_law_paper .nil pass0 (pa_cons (pe_ix ix_list (pv 2) (pv 6) (fun _ _ => rfl)) pa_nil)) (nomark _)))
      (pss_one (ps_if (pt_cmpR op_ne (pe_callB (call_repr hr hG) (by rfl) T.b_repr (by decide +kernel) (pa_cons (pe_lst (pa_cons (pe_cmpR (op_eqF (CC := fun C => C = A.c_Call) (ok_Call___eq__ T) (hr.mono (by decide)) (fun C h => h ▸ T.sp_Call___eq__) T.v_Call___eq__ pass0) (pe_ix ix_list (pv 3) (pv 4) (fun _ _ => rfl)) (pe_ix ix_list (pv 3) (pv 6) (fun _ _ => rfl)) (nomark _)) (pa_cons (pe_cmpR (op_neF (CC := fun C => C = A.c_Call) (ok_Call___eq__ T) (hr.mono (by decide)) (fun C h => h ▸ ⟨T.sp_Call___eq__, T.ne_Call, T.mo_Call⟩) T.v_Call___eq__ pass0) (pe_ix ix_list (pv 3) (pv 6) (fun _ _ => rfl)) (pe_ix ix_list (pv 3) (pv 4) (fun _ _ => rfl)) (nomark _)) pa_nil))) pa_nil)) (pe_callB (call_repr hr hG) (by rfl) T.b_repr (by decide +kernel) (pa_cons (pe_lst (pa_cons (pv 7) (pa_cons (pe_not (pv 7)) pa_nil))) pa_nil)) (nomark _)) (pss_one (ps_ret pe_bl)) pss_nil)))))))
      (pss_cons (ps_for PassesOwn.never rfl (pi_list (pe_lst (pa_cons (pe_call (ok_law_paper T) (hr.mono (by decide)) (by rfl) T.m_law_paper T.k_law_paper T.v_law_paper .nil pass0 (pa_cons (pv 1) pa_nil)) (pa_cons pe_non (pa_cons (pe_ix ix_list (pv 1) pe_int (fun _ _ => rfl)) (pa_cons (pe_ix ix_list (pv 1) pe_int (fun _ _ => rfl)) (pa_cons pe_int pa_nil))))))) (pg_name (i := 5) nd rfl (Or.inl rfl)) (pss_one (ps_if (PW.pt (pw_or (pt_cmpR (op_eqF (CC := fun C => C = A.c_Call) (ok_Call___eq__ T) (hr.mono (by decide)) (fun C h => h ▸ T.sp_Call___eq__) T.v_Call___eq__ pass0) (pe_ix ix_list (pv 3) pe_int (fun _ _ => rfl)) (pv 5) (nomark _)) (pw_or1 (pt_not (pt_cmpR (op_neF (CC := fun C => C = A.c_Call) (ok_Call___eq__ T) (hr.mono (by decide)) (fun C h => h ▸ ⟨T.sp_Call___eq__, T.ne_Call, T.mo_Call⟩) T.v_Call___eq__ pass0) (pe_ix ix_list (pv 3) pe_int (fun _ _ => rfl)) (pv 5) (nomark _)))))) (pss_one (ps_ret pe_bl)) pss_nil)))
      (pss_one (ps_ret pe_bl))))))), ?_⟩
    refine ⟨_, rfl, a, rfl, src, fun l z zs gs rs ts H1 dat ng cg src1 kb1 => ?_⟩
    have good : Good ⟨z, zs, ts⟩ := ⟨gs, rs, ng, cg⟩
    refine ⟨_, rfl, _, rfl, a, l, ⟨z, zs, ts⟩, rfl, src1, dat, good, fun f ls ds H2 hf dats gd d1 d8 src2 kb2 => ?_⟩
    have ldl := dats.len
    have dat2 := dat.mv src1 kb2
    have nfa : f ≠ a := by
      obtain ⟨x, y, c, e, _⟩ := src2
      refine ne_of hf e ?_
      intro q
      injection q with q
      cases ls with
      | nil => cases q
      | cons l0 l1 =>
        injection q with q
        cases q
    refine ⟨_, rfl, f, rfl, ⟨_, SqL.of hf⟩, fun D hD => ?_⟩
    have nDa : D ≠ a := src2.fresh hD
    refine lc_it (walk_list (K := K) (a := f) (xs := ls.map V.ref)) (fun i U => KeepBut a H2 U ∧ Src U a ∧ ∃ ms : List Addr, U D = some (.lst (ms.map V.ref)) ∧ ms.length = i ∧ MinesAt K A U ms ds) ⟨KeepBut.of_same (same_new hD), src2.same (same_new hD), [], upd_same, rfl, fun j m e => by simp at e⟩ (fun i U _ h => SqL.of (h.1 _ _ nfa hf)) ?_ ?_
    · rintro i x U V' hi ⟨kb, s6, ms, hd6, lm, mi⟩ ⟨rfl, hx⟩
      rw [List.getElem?_map] at hx
      obtain ⟨p, hp, rfl⟩ := Option.map_eq_some_iff.mp hx
      obtain ⟨d, hd, datp⟩ := (dats.mv src2 kb).get hp
      have il := (List.getElem?_eq_some_iff.mp hd).1
      have ⟨_, _, _, nzd, _⟩ := datp
      obtain ⟨rm, okc, okb⟩ := (gd d (List.mem_of_getElem? hd)).cl nzd
      refine ⟨rfl, _, rfl, _, rfl, a, p, ⟨d.z, d.zs, d.ts, rm⟩, rfl, s6, datp, okc, okb, fun m U7 ca s7 kb7 => ?_⟩
      have hd7 := kb7 _ _ nDa hd6
      have k2 := KpT.lst hd7 (KeepBut.upd D U7 (.lst (ms.map V.ref ++ [.ref m])))
      refine ⟨_, hd7, ?_, ?_, s7.upd nDa, ms ++ [m], ?_, ?_, ?_⟩
      · rw [List.length_map]
        exact lt5000 (by omega)
      · intro b o nb e
        rw [upd_ne (ne_of_none e hD)]
        exact kb7 _ _ nb (kb _ _ nb e)
      · rw [upd_same, List.map_append]
        rfl
      · rw [List.length_append, lm]
        rfl
      · intro j m' e
        rw [List.getElem?_append] at e
        split at e
        · exact ((mi.mv (s6.kp kb7)).mv k2) j m' e
        · rename_i hj
          have hj2 : j = i := by
            have := (List.getElem?_eq_some_iff.mp e).1
            simp only [List.length_singleton] at this
            omega
          subst hj2
          rw [lm, Nat.sub_self] at e
          cases e
          exact ⟨d, _, hd, ca.mv k2, rfl, rfl, rfl⟩
    rintro H3 ⟨kb3, src3, ms, hD3, lm, mi⟩
    rw [List.length_map] at lm
    have hf3 := kb3 _ _ nfa hf
    have dats3 := dats.mv src2 kb3
    have dat3 := dat2.mv src2 kb3
    have hq : ∀ U, Same H3 U → Q (.bl true) U := fun U s => q U (((kb1.trans kb2).trans kb3).trans (KeepBut.of_same s))
    -- one of the calls and its data
    have at1 : ∀ {xs : List Addr} {i : Nat} {x : Addr}, xs[i]? = some x → atI (xs.map V.ref) (0 + ((i : Nat) : Int)) = some (V.ref x) := by
      intro xs i x h
      rw [Int.zero_add]
      exact atI_nat (j := i) (by rw [List.getElem?_map, h]; rfl)
    have pick : ∀ i, i < ls.length → ∃ (m p : Addr) (c : Cl), ms[i]? = some m ∧ ls[i]? = some p ∧ (∀ U, Same H3 U → CallAt K A U m c ∧ DatAt K U p c.z c.zs c.ts) ∧ Good ⟨c.z, c.zs, c.ts⟩ := by
      intro i hi
      have hm : ms[i]? = some (ms[i]'(by omega)) := List.getElem?_eq_getElem (by omega)
      have hp : ls[i]? = some ls[i] := List.getElem?_eq_getElem hi
      obtain ⟨d, c, hd, ca, e1, e2, e3⟩ := mi i _ hm
      obtain ⟨d', hd', da⟩ := dats3.get hp
      rw [hd] at hd'
      cases hd'
      refine ⟨_, _, c, hm, hp, fun U s => ⟨ca.mv (KpT.of_same s), ?_⟩, ?_⟩
      · rw [e1, e2, e3]
        exact da.same s
      · rw [e1, e2, e3]
        exact gd d (List.mem_of_getElem? hd)
    refine ⟨_, rfl, f, _, rfl, .inl (SqL.of hf3), _, rfl, by rw [List.length_map]; omega, by rw [List.length_map]; omega, for_it (walk_range (lo := 0) (n := (ls.map V.ref).length)) (fun i σ U => Same H3 U ∧ ∃ v4 v5 v6 v7 v8 : Option V, σ = [some (.ref a), some (.ref l), some (.ref f), some (.ref D), v4, v5, v6, v7, v8]) ⟨Same.refl _, _, _, _, _, _, rfl⟩ (fun _ _ _ _ _ => trivial) ?_ ?_⟩
    · rintro i x σ U V' hi ⟨sU, v4, v5, v6, v7, v8, rfl⟩ ⟨rfl, rfl⟩
      rw [List.length_map] at hi
      obtain ⟨m, p, c, hm, hp, both, gc⟩ := pick i hi
      have ⟨ca, da⟩ := both _ sU
      refine ⟨_, rfl, _, rfl, D, _, _, _, rfl, rfl, SqL.of (sU _ _ hD3), at1 hm, rfl, _, rfl, (if_neg (fun h => absurd (of_decide_eq_true h) (fun z => nomatch z))).mpr ?_⟩
      refine ⟨_, rfl, _, rfl, D, _, _, _, rfl, rfl, SqL.of (sU _ _ hD3), at1 hm, _, rfl, _, rfl, f, _, _, _, rfl, rfl, SqL.of (sU _ _ hf3), at1 hp, m, p, c, rfl, ca, da, gc, fun U1 u1 => ⟨_, rfl, ?_⟩⟩
      have sU1 := sU.trans u1
      refine ⟨_, rfl, f, _, rfl, .inl (SqL.of (sU1 _ _ hf3)), _, rfl, by rw [List.length_map]; omega, by rw [List.length_map]; omega, for_it (walk_range (lo := 0) (n := (ls.map V.ref).length)) (fun j σ U => Same H3 U ∧ ∃ v5 v6 v7 v8 : Option V, σ = [some (.ref a), some (.ref l), some (.ref f), some (.ref D), some (.int (0 + (i : Nat))), v5, v6, v7, v8]) ⟨sU1, _, _, _, _, rfl⟩ (fun _ _ _ _ _ => trivial) ?_ ?_⟩
      · rintro j x σ U V2 hj ⟨sV, v5, v6, v7, v8, rfl⟩ ⟨rfl, rfl⟩
        rw [List.length_map] at hj
        obtain ⟨m2, p2, c2, hm2, hp2, both2, gc2⟩ := pick j hj
        have ⟨cav, dav⟩ := both _ sV
        have okc : ClOk c := by
          obtain ⟨_, _, _, _, _, _, _, _, _, _, _, _, _, _, _, _, _, _, _, _, _, _, ok⟩ := cav
          exact ok
        have ok2 : ClOk c2 := by
          obtain ⟨_, _, _, _, _, _, _, _, _, _, _, _, _, _, _, _, _, _, _, _, _, _, ok⟩ := (both2 _ sV).1
          exact ok
        have lk : ∀ r ∈ linesC c, LineOk r := by
          obtain ⟨_, _, _, _, _, _, _, _, _, _, _, _, _, _, _, h7, _⟩ := cav
          exact (linesC_ok okc h7).1
        have lk2 : ∀ r ∈ linesC c2, LineOk r := by
          obtain ⟨_, _, _, _, _, _, _, _, _, _, _, _, _, _, _, h7, _⟩ := (both2 _ sV).1
          exact (linesC_ok ok2 h7).1
        have a40 := okc.am
        have b40 := ok2.am
        have a5 := okc.lv
        have b5 := ok2.lv
        refine ⟨_, rfl, _, rfl, f, _, _, _, rfl, rfl, SqL.of (sV _ _ hf3), at1 hp, p, c.z, c.zs, c.ts, rfl, dav, okc.few, okc.tags, by omega, by omega, fun U2 u2 => ?_⟩
        have sV2 := sV.trans u2
        refine ⟨_, rfl, _, rfl, f, _, _, _, rfl, rfl, SqL.of (sV2 _ _ hf3), at1 hp2, p2, c2.z, c2.zs, c2.ts, rfl, (both2 _ sV2).2, ok2.few, ok2.tags, by omega, by omega, fun U3 u3 => ?_⟩
        have sV3 := sV2.trans u3
        obtain ⟨al, eal⟩ : ∃ al, al = decide (linesC c = linesC c2) := ⟨_, rfl⟩
        have er : decide (linesC c = linesC c2) = al := eal.symm
        have er2 : decide (linesC c2 = linesC c) = al := by
          rw [eal, Bool.eq_iff_iff]
          simp only [decide_eq_true_eq]
          exact ⟨Eq.symm, Eq.symm⟩
        have pe : decide (V.str (paperF c.z c.zs c.ts) = V.str (paperF c2.z c2.zs c2.ts)) = al := (text_inj lk lk2).trans er
        refine ⟨rfl, ?_⟩
        rw [pe]
        have ca3 := (both _ sV3).1
        have cb3 := (both2 _ sV3).1
        have ⟨dx, fs, _, _, _, _, _, _, i1, _⟩ := ca3
        have ⟨dx2, fs2, _, _, _, _, _, _, j1, _⟩ := cb3
        refine ⟨_, rfl, _, rfl, D, _, _, _, rfl, rfl, SqL.of (sV3 _ _ hD3), at1 hm, _, rfl, _, rfl, D, _, _, _, rfl, rfl, SqL.of (sV3 _ _ hD3), at1 hm2, m, A.c_Call, dx, fs, _, rfl, rfl, i1, T.ty_Call _ _ _ _ j1, T.ns_Call, m, c, .ref m2, rfl, ca3, .inl ⟨m2, c2, rfl, cb3, fun U4 u4 => ⟨_, rfl, ?_⟩⟩⟩
        have sV4 := sV3.trans u4
        refine ⟨_, rfl, _, rfl, D, _, _, _, rfl, rfl, SqL.of (sV4 _ _ hD3), at1 hm2, _, rfl, _, rfl, D, _, _, _, rfl, rfl, SqL.of (sV4 _ _ hD3), at1 hm, m2, A.c_Call, dx2, fs2, _, rfl, rfl, u4 _ _ j1, T.ty_Call _ _ _ _ (u4 _ _ i1), T.ns_Call, m2, c2, .ref m, rfl, cb3.mv (KpT.of_same u4), .inl ⟨m, c, rfl, ca3.mv (KpT.of_same u4), fun U5 u5 => ⟨_, rfl, (by show 2 ≤ sizeLine; decide), fun r3 m3 => ?_⟩⟩⟩
        rw [er, er2]
        have bo := bl_repr al
        have f3 := same_new (o := .lst [.bl al, .bl (!al)]) m3
        refine ⟨r3, .list [.bool al, .bool (!al)], rfl, .lst (SqL.of upd_same) (.cons (.bl _) (.cons (.bl _) .nil)), bo.1, bo.2.1, bo.2.2.1, bo.2.2.2, ?_⟩
        refine ⟨_, rfl, _, rfl, al, rfl, (by show 2 ≤ sizeLine; decide), fun r4 m4 => ⟨r4, .list [.bool al, .bool (!al)], rfl, .lst (SqL.of upd_same) (.cons (.bl _) (.cons (.bl _) .nil)), bo.1, bo.2.1, bo.2.2.1, bo.2.2.2, rfl, _, rfl, (if_neg (by show ¬ (!decide _) = true; rw [decide_eq_true rfl]; decide)).mpr ?_⟩⟩
        exact ⟨((sV4.trans u5).trans f3).trans (same_new m4), _, _, _, _, rfl⟩
      · rintro σ U ⟨sV, v5, v6, v7, v8, rfl⟩
        exact ⟨sV, _, _, _, _, _, rfl⟩
    · rintro σ U ⟨sU, v4, v5, v6, v7, v8, rfl⟩
      have datU := dat3.same sU
      have ⟨pt, pb, hl, nzl, txl, ⟨ps, sq, tr⟩⟩ := datU
      have hl : U l = some (.lst [.str z, .ref pt, .ref pb]) := hl
      obtain ⟨m0, p0, c0, hm0, hp0, both0, gc0⟩ := pick 0 (by omega)
      have lv5 : lvB ts ≤ 5 := cg.lv
      have am40 : amB ts ≤ 40 := cg.am
      refine ⟨_, rfl, l, z, zs, ts, rfl, datU, ng.z2, fun y hy => ng.nm y (List.mem_append_left _ hy), by omega, by omega, fun U1 u1 => ?_⟩
      refine ⟨_, rfl, l, _, _, _, rfl, rfl, SqL.of (u1 _ _ hl), atI_nat (j := 2) rfl, _, rfl, l, _, _, _, rfl, rfl, SqL.of (u1 _ _ hl), atI_nat (j := 0) rfl, (by show 5 ≤ sizeLine; decide), fun lo nlo => ?_⟩
      have u2 := same_new (o := .lst [.str (paperF z zs ts), .non, .ref pb, .str z, .int 0]) nlo
      have sU2 := (sU.trans u1).trans u2
      refine ⟨lo, rfl, ⟨_, SqL.of upd_same⟩, for_it (walk_list (K := K) (a := lo) (xs := [.str (paperF z zs ts), .non, .ref pb, .str z, .int 0])) (fun i σ U' => Same (upd U1 lo (.lst [.str (paperF z zs ts), .non, .ref pb, .str z, .int 0])) U' ∧ ∃ v4 v5 v6 v7 v8 : Option V, σ = [some (.ref a), some (.ref l), some (.ref f), some (.ref D), v4, v5, v6, v7, v8]) ⟨Same.refl _, _, _, _, _, _, rfl⟩ (fun i σ U' _ h => SqL.of (h.1 _ _ upd_same)) ?_ ?_⟩
      · rintro i x σ U3 V3 hi ⟨s3, v4, v5, v6, v7, v8, rfl⟩ ⟨rfl, hx⟩
        have sV := sU2.trans s3
        obtain ⟨n, ty⟩ : ∃ n : Ty7, TyX K V3 x (.type n.nm) := by
          have hx := List.mem_of_getElem? hx
          rcases List.mem_cons.mp hx with rfl | hx
          · exact ⟨.str, .base (.str _)⟩
          rcases List.mem_cons.mp hx with rfl | hx
          · exact ⟨.non, .base .non⟩
          rcases List.mem_cons.mp hx with rfl | hx
          · exact ⟨.tup, sqt_ty ((KpT.of_same ((u1.trans u2).trans s3)).sq sq)⟩
          rcases List.mem_cons.mp hx with rfl | hx
          · exact ⟨.str, .base (.str _)⟩
          · rw [List.mem_singleton.mp hx]
            exact ⟨.int, .base (.int _)⟩
        have ca := (both0 _ sV).1
        have ⟨dx, fs, _, _, _, _, _, _, i1, _⟩ := ca
        have at0 : atI (ms.map V.ref) 0 = some (V.ref m0) := atI_nat (j := 0) (by rw [List.getElem?_map, hm0]; rfl)
        refine ⟨_, rfl, D, _, _, _, rfl, rfl, SqL.of (sV _ _ hD3), at0, _, rfl, m0, A.c_Call, dx, fs, _, rfl, rfl, i1, ty, T.nf_Call n, m0, c0, x, rfl, ca, .inr ⟨n, ty, false, rfl, _, rfl, (if_neg (by decide)).mpr ?_⟩⟩
        refine ⟨_, rfl, D, _, _, _, rfl, rfl, SqL.of (sV _ _ hD3), at0, _, rfl, m0, A.c_Call, dx, fs, _, rfl, rfl, i1, ty, T.nf_Call n, m0, c0, x, rfl, ca, .inr ⟨n, ty, false, rfl, _, rfl, ?_⟩⟩
        exact ⟨s3, _, _, _, _, _, rfl⟩
      · rintro σ U3 ⟨s3, v4, v5, v6, v7, v8, rfl⟩
        exact hq _ (sU2.trans s3)
end
end K07
set_option Elab.async false
set_option linter.all false
set_option maxRecDepth 100000
set_option maxHeartbeats 4000000
namespace K07
open PySem PySem.Spec PyProof.Rows L2 Mo
abbrev tP : Tr := .one 1 ["put", "c", "s"] "put c s"
abbrev tI : Tr := .cond "s" "t" [tP] [tP, tP]
abbrev tS : List Tr := [tP, tI, tP]
abbrev tL : Tr := .loop [tP, .one 5 ["leave"] "leave"]
theorem mk_cl {z : Str} {zs cs : List Str} {ts : List Tr} (hz : NameT z) (z2 : zs.length ≤ 2) (nd : zs.Nodup) (hzs : ∀ y ∈ zs, NameT y) (lv : lvB ts ≤ 5) (am : amB ts ≤ 40) (pc : pcB ts ≤ 12) (lo : loB ts = false) (sl : (slotsF zs (allB ts)).length ≤ 3) (c3 : cs.length ≤ 3) (us : ∀ u ∈ allB ts, (∀ y, (fdT u).into = some y → y ∉ zs) ∧ (∀ y, (fdT u).cell = some y → y ∈ cs) ∧ wf1 u) : ∃ rs, ClOk ⟨z, zs, ts, rs⟩ := by
  obtain ⟨rm, hrm⟩ := rooms_ex (allB ts)
  exact ⟨rm, ⟨hz, z2, nd, hzs, lv, am, pc, lo, fun u hu => (us u hu).1, ⟨cs, c3, fun u hu => (us u hu).2.1⟩, sl, fun u hu => (us u hu).2.2, hrm⟩⟩
theorem nameBy {z : Str} (h : (isNameV (.str z) && z.cps.toList.all Aln && decide (z.length ≤ 8)) = true) : NameT z := by
  simp only [Bool.and_eq_true, decide_eq_true_eq] at h
  exact ⟨h.1.1, aln_by h.1.2, h.2⟩
theorem operBy {z : Str} (h : (isOperV (.str z) && z.cps.toList.all Aln && decide (z.length ≤ 8)) = true) : OperT z := by
  simp only [Bool.and_eq_true, decide_eq_true_eq] at h
  exact ⟨h.1.1, aln_by h.1.2, h.2⟩
theorem cl_first : ∃ rs, ClOk ⟨"a", [], tS, rs⟩ := by
  refine mk_cl (cs := ["c"]) (nameBy (by decide +kernel)) (by decide) List.nodup_nil (fun _ h => (List.not_mem_nil h).elim) (by decide +kernel) (by decide +kernel) (by decide +kernel) (by decide +kernel) (by decide +kernel) (by decide) ?_
  have e : allB tS = [tP, tI, tP, tP, tP, tP] := by rfl
  rw [e]
  have oP : wf1 tP := .put (nameBy (by decide +kernel)) (operBy (by decide +kernel))
  have hP : (∀ y, (fdT tP).into = some y → y ∉ ([] : List Str)) ∧ (∀ y, (fdT tP).cell = some y → y ∈ (["c"] : List Str)) ∧ wf1 tP := ⟨fun y h => noS h, fun y h => someS (List.mem_singleton.mpr rfl) h, oP⟩
  have hI : (∀ y, (fdT tI).into = some y → y ∉ ([] : List Str)) ∧ (∀ y, (fdT tI).cell = some y → y ∈ (["c"] : List Str)) ∧ wf1 tI := ⟨fun y h => noS h, fun y h => noS h, trivial⟩
  intro u hu
  simp only [List.mem_cons, List.not_mem_nil, or_false] at hu
  rcases hu with rfl | rfl | rfl | rfl | rfl | rfl <;> first | exact hP | exact hI
theorem cl_second : ∃ rs, ClOk ⟨"b", ["t"], [tL] ++ tS, rs⟩ := by
  refine mk_cl (cs := ["c"]) (nameBy (by decide +kernel)) (by decide) (by simp) (fun y h => by rw [List.mem_singleton.mp h]; exact nameBy (by decide +kernel)) (by decide +kernel) (by decide +kernel) (by decide +kernel) (by decide +kernel) (by decide +kernel) (by decide) ?_
  have e : allB ([tL] ++ tS) = [tL, tP, .one 5 ["leave"] "leave", tP, tI, tP, tP, tP, tP] := by rfl
  rw [e]
  have oP : wf1 tP := .put (nameBy (by decide +kernel)) (operBy (by decide +kernel))
  have hP : (∀ y, (fdT tP).into = some y → y ∉ (["t"] : List Str)) ∧ (∀ y, (fdT tP).cell = some y → y ∈ (["c"] : List Str)) ∧ wf1 tP := ⟨fun y h => noS h, fun y h => someS (List.mem_singleton.mpr rfl) h, oP⟩
  have hI : (∀ y, (fdT tI).into = some y → y ∉ (["t"] : List Str)) ∧ (∀ y, (fdT tI).cell = some y → y ∈ (["c"] : List Str)) ∧ wf1 tI := ⟨fun y h => noS h, fun y h => noS h, trivial⟩
  have hL : (∀ y, (fdT tL).into = some y → y ∉ (["t"] : List Str)) ∧ (∀ y, (fdT tL).cell = some y → y ∈ (["c"] : List Str)) ∧ wf1 tL := ⟨fun y h => noS h, fun y h => noS h, trivial⟩
  have hE : (∀ y, (fdT (.one 5 ["leave"] "leave")).into = some y → y ∉ (["t"] : List Str)) ∧ (∀ y, (fdT (.one 5 ["leave"] "leave")).cell = some y → y ∈ (["c"] : List Str)) ∧ wf1 (.one 5 ["leave"] "leave") := ⟨fun y h => noS h, fun y h => noS h, .leave⟩
  intro u hu
  simp only [List.mem_cons, List.not_mem_nil, or_false] at hu
  rcases hu with rfl | rfl | rfl | rfl | rfl | rfl | rfl | rfl | rfl <;> first | exact hP | exact hI | exact hL | exact hE
theorem second_slots : slotsF ["t"] (allB ([tL] ++ tS)) = [("s" : Str)] := by decide +kernel
/-- the told list of the shared ones -/
def toldS : PyData := .list [.int 5, .str "Call(6 statements, 5 steps)", .int 6, .str "Call(9 statements, 6 steps)", .tuple [.str "s"], .str "put c s"]
theorem toldS_ok : toldS.showable = true ∧ toldS.hasDict = false ∧ toldS.depth ≤ 60 ∧ toldS.shown.length ≤ sizeLine := by
  refine ⟨by decide +kernel, by decide +kernel, by decide +kernel, by decide +kernel⟩
theorem rp1 : reprC (amB tS) (pcB tS) = "Call(6 statements, 5 steps)" := by decide +kernel
theorem rp2 : reprC (amB ([tL] ++ tS)) (pcB ([tL] ++ tS)) = "Call(9 statements, 6 steps)" := by decide +kernel
theorem pc1 : ((pcB tS : Nat) : Int) = 5 := by decide +kernel
theorem pc2 : ((pcB ([tL] ++ tS) : Nat) : Int) = 6 := by decide +kernel
theorem st1 : Txt.join "\n" (sdT tP).rows = ("put c s" : Str) := by decide +kernel
theorem ln_ne (r1 r2 : List Str) : decide (linesC ⟨"a", [], tS, r1⟩ = linesC ⟨"b", ["t"], [tL] ++ tS, r2⟩) = false := by
  refine decide_eq_false fun h => ?_
  have h1 : (linesC ⟨"a", [], tS, r1⟩).headD "" = (linesC ⟨"b", ["t"], [tL] ++ tS, r2⟩).headD "" := by rw [h]
  revert h1
  show ¬ (headC ⟨"a", [], tS, r1⟩ = headC ⟨"b", ["t"], [tL] ++ tS, r2⟩)
  show ¬ (Txt.join " " ["call", "a"] = Txt.join " " ["call", "b", "t"])
  decide +kernel
theorem tx1 (r1 : List Str) : textC ⟨"a", [], tS, r1⟩ = "call a\n  put c s\n  if s is t\n    put c s\n  else\n    put c s\n    put c s\n  put c s" := by
  show Txt.join "\n" (Txt.join " " ["call", "a"] :: ind (rowsB tS)) = _
  decide +kernel
section
variable {w : World} {K : PySem.W.Frag} {mg : Str → Option Value} {base : Heap} {A : Ads}
theorem made_same {H H' : Hp} {x dx C : Addr} (nx : H x = none) (ndx : H dx = none) (h : KeepBut x (upd (upd H dx (.own x)) x (.ins C dx [])) H') : Same H H' := fun b o e => by
  have n1 : b ≠ x := ne_of_none e nx
  have n2 : b ≠ dx := ne_of_none e ndx
  refine h b o n1 ?_
  rw [upd_ne n1, upd_ne n2]
  exact e
theorem laid_same {H : Hp} {x dx C : Addr} (nx : H x = none) (ndx : H dx = none) : Same H (upd (upd H dx (.own x)) x (.ins C dx [])) := fun b o e => by
  rw [upd_ne (ne_of_none e nx), upd_ne (ne_of_none e ndx)]
  exact e
def spShared : Sp := fun vs H Q _ => vs = [] ∧ ∀ H', Same H H' → Q (.bl true) H'
theorem ok_law_shared_right (T : Txt K mg A) : FnG P w K mg base CX0 26 A.a_law_shared_right A.d_law_shared_right [] spShared := by
  have nd := sc_law_shared_right.nd
  refine Fun_okG T.f_law_shared_right sc_law_shared_right (fun vs H Q E h => ?_) (fun cdv A' outer s H vs Q E hr hG h => ?_)
  · obtain ⟨rfl, _⟩ := h
    rfl
  · obtain ⟨rfl, q⟩ := h
    refine ⟨_, (pss_cons (ps_set (i := 0) nd rfl (Or.inl rfl) (pe_make T.mk_Put (ok_Put___init__ T) (hr.mono (by decide)) (by rfl) T.m_Put T.v_Put___init__ .nil pass0 (pa_cons pe_str (pa_cons pe_str pa_nil))))
      (pss_cons (ps_set (i := 1) nd rfl (Or.inl rfl) (pe_tup (pa_cons (pv 0) (pa_cons (pe_make (dvs := []) T.mk_If (ok_If___init__ T) (hr.mono (by decide)) (by rfl) T.m_If T.vd_If___init___4 .nil pass0 (pa_cons pe_str (pa_cons pe_str (pa_cons (pe_tup (pa_cons (pv 0) pa_nil)) (pa_cons (pe_tup (pa_cons (pv 0) (pa_cons (pv 0) pa_nil))) pa_nil))))) (pa_cons (pv 0) pa_nil)))))
      (pss_cons (ps_par (i := 2) (j := 3) rfl nd rfl rfl (by decide) rfl rfl (pa_cons (pe_make T.mk_Call (ok_Call___init__ T) (hr.mono (by decide)) (by rfl) T.m_Call T.v_Call___init__ .nil pass0 (pa_cons pe_str (pa_cons (pe_tupX pa_nil) (pa_cons (pv 1) pa_nil)))) (pa_cons (pe_make T.mk_Call (ok_Call___init__ T) (hr.mono (by decide)) (by rfl) T.m_Call T.v_Call___init__ .nil pass0 (pa_cons pe_str (pa_cons (pe_tupX (pa_cons pe_str pa_nil)) (pa_cons (pe_op op_catX (pe_tup (pa_cons (pe_make T.mk_Loop (ok_Loop___init__ T) (hr.mono (by decide)) (by rfl) T.m_Loop T.v_Loop___init__ .nil pass0 (pa_cons (pe_tup (pa_cons (pv 0) (pa_cons (pe_make0 T.mk_Leave (ok_Leave___init__ T) (hr.mono (by decide)) (by rfl) T.m_Leave T.v_Leave___init__ .nil pass0) pa_nil))) pa_nil)) pa_nil)) (pv 1)) pa_nil)))) pa_nil)) (by rfl))
      (pss_cons (ps_set (i := 4) nd rfl (Or.inl rfl) (pe_lst (pa_cons (pe_prop (pv 2) T.cl_Call T.pr_Call_steps (ok_Call_steps T) (hr.mono (by decide)) T.v_Call_steps .nil pass0 rfl) (pa_cons (pe_callB (call_reprF (CC := fun C => C = A.c_Call) (ok_Call___repr__ T) (hr.mono (by decide)) (fun C h => h ▸ T.sp_Call___repr__) T.v_Call___repr__ pass0) (by rfl) T.b_repr (by decide +kernel) (pa_cons (pv 2) pa_nil)) (pa_cons (pe_prop (pv 3) T.cl_Call T.pr_Call_steps (ok_Call_steps T) (hr.mono (by decide)) T.v_Call_steps .nil pass0 rfl) (pa_cons (pe_callB (call_reprF (CC := fun C => C = A.c_Call) (ok_Call___repr__ T) (hr.mono (by decide)) (fun C h => h ▸ T.sp_Call___repr__) T.v_Call___repr__ pass0) (by rfl) T.b_repr (by decide +kernel) (pa_cons (pv 3) pa_nil)) (pa_cons (pe_fld (pv 3) rfl) (pa_cons (pe_callTy (call_strF (ok_Statement___str__ T) (hr.mono (by decide)) T.sp_Statement___str__ T.v_Statement___str__ pass0) (by rfl) T.b_str (by decide +kernel) (pa_cons (pv 0) pa_nil)) pa_nil))))))))
      (pss_cons (ps_set (i := 5) nd rfl (Or.inl rfl) (pe_lst (pa_cons pe_int (pa_cons pe_str (pa_cons pe_int (pa_cons pe_str (pa_cons (pe_tup (pa_cons pe_str pa_nil)) (pa_cons pe_str pa_nil))))))))
      (pss_cons (ps_if (PW.pt (pw_or (pt_cmpR op_ne (pe_callB (call_repr hr hG) (by rfl) T.b_repr (by decide +kernel) (pa_cons (pv 4) pa_nil)) (pe_callB (call_repr hr hG) (by rfl) T.b_repr (by decide +kernel) (pa_cons (pv 5) pa_nil)) (nomark _)) (pw_or (pt_cmpR (op_eqF (CC := fun C => C = A.c_Call) (ok_Call___eq__ T) (hr.mono (by decide)) (fun C h => h ▸ T.sp_Call___eq__) T.v_Call___eq__ pass0) (pv 2) (pv 3) (nomark _)) (pw_or1 (pt_cmpR (op_neF (CC := fun C => C = A.c_Call) (ok_Call___eq__ T) (hr.mono (by decide)) (fun C h => h ▸ ⟨T.sp_Call___eq__, T.ne_Call, T.mo_Call⟩) T.v_Call___eq__ pass0) (pe_make T.mk_Call (ok_Call___init__ T) (hr.mono (by decide)) (by rfl) T.m_Call T.v_Call___init__ .nil pass0 (pa_cons pe_str (pa_cons (pe_tupX pa_nil) (pa_cons (pv 1) pa_nil)))) (pv 2) (nomark _)))))) (pss_one (ps_ret pe_bl)) pss_nil)
      (pss_one (ps_ret (pe_cmpR op_eq (pe_callTy (call_strF (CC := fun C => C = A.c_Call) (ok_Call___str__ T) (hr.mono (by decide)) (fun C h => h ▸ T.sp_Call___str__) T.v_Call___str__ pass0) (by rfl) T.b_str (by decide +kernel) (pa_cons (pv 2) pa_nil)) pe_str (nomark _)))))))))), ?_⟩
    have nc : NameT "c" := nameBy (by decide +kernel)
    have os : OperT "s" := operBy (by decide +kernel)
    have ot : OperT "t" := operBy (by decide +kernel)
    refine fun x dx nx ndx nex => ⟨x, dx, "c", "s", rfl, upd_same, nc, os, fun H1 sap kb1 => ⟨rfl, ?_⟩⟩
    have sP : StT K A H1 x tP := one_st sap
    have s1 := made_same nx ndx kb1
    obtain ⟨rs1, ok1⟩ := cl_first
    obtain ⟨rs2, ok2⟩ := cl_second
    refine ⟨_, rfl, _, rfl, (by show 1 ≤ sizeLine; decide), fun p1 n1 => ⟨_, rfl, _, rfl, (by show 2 ≤ sizeLine; decide), fun p2 n2 => fun y dy ny ndy ney => ?_⟩⟩
    have e1 := same_new (o := .tup [.ref x]) n1
    have e2 := same_new (o := .tup [.ref x, .ref x]) n2
    have e3 := laid_same (C := A.c_If) ny ndy
    have sP2 := sP.mv (KpT.of_same ((e1.trans e2).trans e3))
    refine ⟨y, dy, p1, p2, "s", "t", [x], [x, x], [tP], [tP, tP], rfl, upd_same, os, ot, SqT.of ((e2.trans e3) _ _ upd_same), .cons sP2 .nil, SqT.of (e3 _ _ upd_same), .cons sP2 (.cons sP2 .nil), by decide +kernel, by decide +kernel, fun H2 stI kb2 => ⟨rfl, _, rfl, (by show 3 ≤ sizeLine; decide), fun p3 n3 => ?_⟩⟩
    have e4 := made_same ny ndy kb2
    have e5 := same_new (o := .tup [.ref x, .ref y, .ref x]) n3
    refine abs_heap (fun U => Same H U ∧ StT K A U x tP ∧ StT K A U y tI ∧ SqT K U p3 [.ref x, .ref y, .ref x]) ⟨(((s1.trans e1).trans e2).trans e4).trans e5, sP.mv (KpT.of_same (((e1.trans e2).trans e4).trans e5)), stI.mv (KpT.of_same e5), SqT.of upd_same⟩ ?_
    rintro U3 ⟨s3, tp3, ti3, q3⟩
    refine ⟨Nat.zero_le _, fun f1 o1 ho1 m1 => ⟨_, rfl, fun a1 d1 na1 nd1 ne1 => ?_⟩⟩
    have g1 := same_new (o := .frz o1 (.tup [])) m1
    have g2 := laid_same (C := A.c_Call) na1 nd1
    have k12 := KpT.of_same (g1.trans g2)
    refine ⟨a1, d1, f1, p3, [x, y, x], ⟨"a", [], tS, rs1⟩, rfl, upd_same, ⟨o1, ho1, g2 _ _ upd_same⟩, k12.sq q3, .cons (tp3.mv k12) (.cons (ti3.mv k12) (.cons (tp3.mv k12) .nil)), ok1, fun H4 ca1 kb4 => ⟨rfl, ?_⟩⟩
    have g3 := made_same na1 nd1 kb4
    have s4 := g1.trans g3
    refine ⟨(by show 1 ≤ sizeLine; decide), fun f2 o2 ho2 m2 => ⟨_, rfl, fun v dv nv ndv nev => ⟨v, dv, rfl, upd_same, fun H5 sap5 kb5 => ⟨rfl, (by show 2 ≤ sizeLine; decide), fun p4 n4 => fun u du nu ndu neu => ?_⟩⟩⟩⟩
    have h1 := same_new (o := .frz o2 (.tup [.str "t"])) m2
    have h2 := made_same nv ndv kb5
    have h3 := same_new (o := .tup [.ref x, .ref v]) n4
    have h4 := laid_same (C := A.c_Loop) nu ndu
    have sV : StT K A H5 v (.one 5 ["leave"] "leave") := one_st sap5
    have k5 := KpT.of_same ((s4.trans h1).trans (h2.trans (h3.trans h4)))
    refine ⟨u, du, p4, [x, v], [tP, .one 5 ["leave"] "leave"], rfl, upd_same, SqT.of (h4 _ _ upd_same), .cons (tp3.mv k5) (.cons (sV.mv (KpT.of_same (h3.trans h4))) .nil), fun _ _ => trivial, by decide +kernel, by decide +kernel, fun H6 stL kb6 => ⟨rfl, (by show 1 ≤ sizeLine; decide), fun p5 n5 => ?_⟩⟩
    have h5 := made_same nu ndu kb6
    have h6 := same_new (o := .tup [.ref u]) n5
    have s46 := h1.trans ((h2.trans (h3.trans h5)).trans h6)
    have k36 := KpT.of_same (s4.trans s46)
    refine ⟨_, rfl, catX_ok (SqT.of upd_same) (k36.sq q3) (by show 1 + 3 ≤ sizeLine; decide) fun p6 H7 s7 q7 => fun a2 d2 na2 nd2 ne2 => ?_⟩
    have g7 := laid_same (C := A.c_Call) na2 nd2
    have s47 := s46.trans (s7.trans g7)
    have k37 := KpT.of_same (s4.trans s47)
    have kL := KpT.of_same (h6.trans (s7.trans g7))
    refine ⟨a2, d2, f2, p6, [u, x, y, x], ⟨"b", ["t"], [tL] ++ tS, rs2⟩, rfl, upd_same, ⟨o2, ho2, ((h2.trans (h3.trans h5)).trans (h6.trans (s7.trans g7))) _ _ upd_same⟩, (KpT.of_same g7).sq q7, .cons (stL.mv kL) (.cons (tp3.mv k37) (.cons (ti3.mv k37) (.cons (tp3.mv k37) .nil))), ok2, fun H8 ca2 kb8 => ⟨rfl, _, _, rfl, ?_⟩⟩
    have g8 := made_same na2 nd2 kb8
    have s48 := s46.trans (s7.trans g8)
    have c1 := ca1.mv (KpT.of_same s48)
    have tpE := tp3.mv (KpT.of_same (s4.trans s48))
    have ⟨dx1, fs1, _, _, _, _, _, _, i1, _⟩ := c1
    have ca2' := ca2
    obtain ⟨dx2, fs2, pp2, pb2, pcc2, psl2, pz2, bs2, j1, jn, j2, j3, j4, j5, j6, j7, j8, j9, j10, j11, j12, j13, jok⟩ := ca2'
    have j11 : SqT K H8 psl2 ((slotsF ["t"] (allB ([tL] ++ tS))).map V.str) := j11
    rw [second_slots] at j11
    obtain ⟨b1, ob1, sa1, _, _⟩ := tpE.at
    have sa1' := sa1
    obtain ⟨C1, dxp, fsp, ps1, pr1, pb1, po1, l1, l2, _⟩ := sa1'
    have mC := List.mem_of_getElem? l1
    refine ⟨_, rfl, a1, dx1, fs1, rfl, i1, a1, _, rfl, c1, _, rfl, a1, A.c_Call, dx1, fs1, rfl, rfl, i1, a1, _, rfl, c1, _, rfl, ?_⟩
    refine ⟨_, rfl, a2, dx2, fs2, rfl, j1, a2, _, rfl, ca2, _, rfl, a2, A.c_Call, dx2, fs2, rfl, rfl, j1, a2, _, rfl, ca2, _, rfl, ?_⟩
    refine ⟨_, rfl, a2, A.c_Call, dx2, fs2, _, rfl, j1, T.cl_Call, T.na_Call_slots, j10, _, rfl, x, C1, dxp, fsp, rfl, mC, l2, x, sdT tP, b1, ob1, rfl, sa1, _, rfl, (by show 6 ≤ sizeLine; decide), fun lt nlt => ?_⟩
    have v1 := same_new (o := .lst [.int (pcB tS : Nat), .str (reprC (amB tS) (pcB tS)), .int (pcB ([tL] ++ tS) : Nat), .str (reprC (amB ([tL] ++ tS)) (pcB ([tL] ++ tS))), .ref psl2, .str (Txt.join "\n" (sdT tP).rows)]) nlt
    refine ⟨(by show 1 ≤ sizeLine; decide), fun p8 n8 => ⟨(by show 6 ≤ sizeLine; decide), fun l9 n9 => ?_⟩⟩
    have v2 := same_new (o := .tup [.str "s"]) n8
    have v3 := same_new (o := .lst [.int 5, .str "Call(6 statements, 5 steps)", .int 6, .str "Call(9 statements, 6 steps)", .ref p8, .str "put c s"]) n9
    have v13 := (v1.trans v2).trans v3
    have dp6 : ∀ (U : Hp) (a : Addr), SqT K U a [.str "s"] → DpAll K U [.int 5, .str "Call(6 statements, 5 steps)", .int 6, .str "Call(9 statements, 6 steps)", .ref a, .str "put c s"] [.int 5, .str "Call(6 statements, 5 steps)", .int 6, .str "Call(9 statements, 6 steps)", .tuple [.str "s"], .str "put c s"] :=
      fun U a h => .cons (.int _) (.cons (.str _) (.cons (.int _) (.cons (.str _) (.cons (.tup h (.cons (.str _) .nil)) (.cons (.str _) .nil)))))
    have tok := toldS_ok
    refine ⟨_, rfl, lt, toldS, rfl, .lst (SqL.of ((v2.trans v3) _ _ upd_same)) ?_, tok.1, tok.2.1, tok.2.2.1, tok.2.2.2, _, rfl, l9, toldS, rfl, .lst (SqL.of upd_same) (dp6 _ _ (SqT.of (v3 _ _ upd_same))), tok.1, tok.2.1, tok.2.2.1, tok.2.2.2, rfl, _, rfl, (if_neg (by show ¬ (!decide _) = true; rw [decide_eq_true rfl]; decide)).mpr ?_⟩
    · have el : [V.int ((pcB tS : Nat) : Int), .str (reprC (amB tS) (pcB tS)), .int ((pcB ([tL] ++ tS) : Nat) : Int), .str (reprC (amB ([tL] ++ tS)) (pcB ([tL] ++ tS))), .ref psl2, .str (Txt.join "\n" (sdT tP).rows)] = [V.int 5, .str "Call(6 statements, 5 steps)", .int 6, .str "Call(9 statements, 6 steps)", .ref psl2, .str "put c s"] := by
        rw [pc1, rp1, pc2, rp2, st1]
      have h := dp6 _ _ ((KpT.of_same v13).sq j11)
      rw [← el] at h
      exact h
    have c1b := c1.mv (KpT.of_same v13)
    have c2b := ca2.mv (KpT.of_same v13)
    refine ⟨_, rfl, _, rfl, a1, A.c_Call, dx1, fs1, _, rfl, rfl, v13 _ _ i1, T.ty_Call _ _ _ _ (v13 _ _ j1), T.ns_Call, a1, _, .ref a2, rfl, c1b, .inl ⟨a2, _, rfl, c2b, fun U1 u1 => ⟨_, rfl, _, rfl, (if_neg (by show ¬ decide _ = true; rw [ln_ne]; decide)).mpr ?_⟩⟩⟩
    have w1 := v13.trans u1
    refine ⟨Nat.zero_le _, fun f3 o3 ho3 m3 => ⟨_, rfl, fun a3 d3 na3 nd3 ne3 => ?_⟩⟩
    have x1 := same_new (o := .frz o3 (.tup [])) m3
    have x2 := laid_same (C := A.c_Call) na3 nd3
    have kx := KpT.of_same ((s4.trans s48).trans (w1.trans (x1.trans x2)))
    refine ⟨a3, d3, f3, p3, [x, y, x], ⟨"a", [], tS, rs1⟩, rfl, upd_same, ⟨o3, ho3, x2 _ _ upd_same⟩, kx.sq q3, .cons (tp3.mv kx) (.cons (ti3.mv kx) (.cons (tp3.mv kx) .nil)), ok1, fun H9 ca3 kb9 => ⟨rfl, ?_⟩⟩
    have x3 := made_same na3 nd3 kb9
    have w2 := w1.trans (x1.trans x3)
    have ⟨dx3, fs3, _, _, _, _, _, _, k1, _⟩ := ca3
    refine ⟨_, rfl, a3, A.c_Call, dx3, fs3, _, rfl, rfl, k1, T.ty_Call _ _ _ _ (w2 _ _ i1), T.ns_Call, a3, _, .ref a1, rfl, ca3, .inl ⟨a1, _, rfl, c1.mv (KpT.of_same w2), fun U2 u2 => ⟨_, rfl, _, rfl, (if_neg (by show ¬ (!decide _) = true; rw [decide_eq_true rfl]; decide)).mpr ?_⟩⟩⟩
    have w3 := w2.trans u2
    refine ⟨_, rfl, a1, A.c_Call, dx1, fs1, rfl, rfl, w3 _ _ i1, a1, _, rfl, c1.mv (KpT.of_same w3), fun U3 u3 => ⟨_, rfl, rfl, ?_⟩⟩
    rw [tx1, decide_eq_true rfl]
    exact q _ ((s3.trans (s4.trans s48)).trans (w3.trans u3))
end
end K07
set_option Elab.async false
set_option linter.all false
set_option maxRecDepth 100000
set_option maxHeartbeats 4000000
namespace Mo
open PySem PySem.Spec PyProof.Rows L2
section
variable {X : Cx} {CX : CXT} {k : Nat} {f : Addr} {fd : FuncData} {ps : List Str} {sp : Sp} {dvs : List V} {ds : List Value} {E : XK} {x : Str} {p pos : Pos}
/-- f() -/
theorem pe_callG0 (F : FnG X.prog X.w X.K X.mg X.base CX k f fd ps sp) (hr : Room k X.A) (hG : X.A.guards = some []) (hg : Gl X x) (hm : X.mg x = some (.ref f)) (hk : PySem.W.keepIn X.K (.ref f) = true) (hb : Binds X.K fd ps ds) (hd : Vals dvs ds) (hx : Passes CX X E)
    (hdb : (x == ("__debug__" : Str)) = false := by decide) : PE X (.Call (.Name x p) [] [] pos) (tCall sp dvs E tNil) := by
  refine ⟨fun pins s σ H Q I h => ?_⟩
  refine wpAny_Call_Name_kw (ld_glob I hg hm ?_ hdb)
  exact PySem.W.callWith_K0 I.kIn hk (call_fnG (us := []) F hr hG hb hd hx I .nil h)
end
end Mo
namespace K07
open PySem PySem.Spec PyProof.Rows L2 Mo
abbrev tJ : Tr := .joined [.one 2 ["swap", "c", "t", "c2"] "swap c t into c2", .one 1 ["put", "b", "c"] "put b c"]
abbrev tO : List Tr := [tJ, .one 4 ["let", "t", "d"] "let t d", .one 6 ["return", "u"] "return u"]
theorem cl_empty : ClOk ⟨"a", [], [], []⟩ := by
  refine ⟨nameBy (by decide +kernel), by decide, List.nodup_nil, fun _ h => (List.not_mem_nil h).elim, by decide +kernel, by decide +kernel, by decide +kernel, by decide +kernel, ?_, ⟨[], by decide, ?_⟩, by decide +kernel, ?_, List.Pairwise.nil, List.nodup_nil, fun z => ?_⟩
  · intro u hu
    exact (List.not_mem_nil (show u ∈ ([] : List Tr) from by rw [← allB_nil]; exact hu)).elim
  · intro u hu
    exact (List.not_mem_nil (show u ∈ ([] : List Tr) from by rw [← allB_nil]; exact hu)).elim
  · intro u hu
    exact (List.not_mem_nil (show u ∈ ([] : List Tr) from by rw [← allB_nil]; exact hu)).elim
  · show z ∈ [] ↔ ∃ u ∈ allB [], _
    rw [allB_nil]
    simp
theorem leS_bc : leS "b" "c" := by
  unfold leS
  decide +kernel
theorem cl_one : ClOk ⟨"c", ["d", "c"], tO, ["b", "c"]⟩ := by
  have e : allB tO = [tJ, .one 2 ["swap", "c", "t", "c2"] "swap c t into c2", .one 1 ["put", "b", "c"] "put b c", .one 4 ["let", "t", "d"] "let t d", .one 6 ["return", "u"] "return u"] := by rfl
  have nm : ∀ {z : Str}, (isNameV (.str z) && z.cps.toList.all Aln && decide (z.length ≤ 8)) = true → NameT z := nameBy
  have op : ∀ {z : Str}, (isOperV (.str z) && z.cps.toList.all Aln && decide (z.length ≤ 8)) = true → OperT z := operBy
  refine ⟨nm (by decide +kernel), by decide, by decide +kernel, ?_, by decide +kernel, by decide +kernel, by decide +kernel, by decide +kernel, ?_, ⟨["b", "c"], by decide, ?_⟩, by decide +kernel, ?_, ?_, by decide +kernel, ?_⟩
  · intro z hz
    have hz : z ∈ (["d", "c"] : List Str) := hz
    rcases List.mem_cons.mp hz with rfl | hz
    · exact nm (by decide +kernel)
    · rw [List.mem_singleton.mp hz]
      exact nm (by decide +kernel)
  · show ∀ u ∈ allB tO, ∀ z, (fdT u).into = some z → z ∉ (["d", "c"] : List Str)
    rw [e]
    intro u hu z hz
    simp only [List.mem_cons, List.not_mem_nil, or_false] at hu
    rcases hu with rfl | rfl | rfl | rfl | rfl
    · exact noS hz
    · obtain rfl : ("c2" : Str) = z := Option.some.inj hz
      decide +kernel
    · exact noS hz
    · obtain rfl : ("t" : Str) = z := Option.some.inj hz
      decide +kernel
    · exact noS hz
  · show ∀ u ∈ allB tO, ∀ z, (fdT u).cell = some z → z ∈ (["b", "c"] : List Str)
    rw [e]
    intro u hu z hz
    simp only [List.mem_cons, List.not_mem_nil, or_false] at hu
    rcases hu with rfl | rfl | rfl | rfl | rfl
    · exact noS hz
    · obtain rfl : ("c" : Str) = z := Option.some.inj hz
      decide +kernel
    · obtain rfl : ("b" : Str) = z := Option.some.inj hz
      decide +kernel
    · exact noS hz
    · exact noS hz
  · show ∀ u ∈ allB tO, wf1 u
    rw [e]
    intro u hu
    simp only [List.mem_cons, List.not_mem_nil, or_false] at hu
    rcases hu with rfl | rfl | rfl | rfl | rfl
    · trivial
    · exact One.swap (c := "c") (o := "t") (i := "c2") (nm (by decide +kernel)) (op (by decide +kernel)) (nm (by decide +kernel))
    · exact One.put (c := "b") (o := "c") (nm (by decide +kernel)) (op (by decide +kernel))
    · exact One.let_ (i := "t") (o := "d") (nm (by decide +kernel)) (op (by decide +kernel))
    · exact One.ret (o := "u") (op (by decide +kernel))
  · exact .cons (fun y hy => by rw [List.mem_singleton.mp hy]; exact leS_bc) (.cons (fun _ h => (List.not_mem_nil h).elim) .nil)
  · intro z
    show z ∈ (["b", "c"] : List Str) ↔ ∃ u ∈ allB tO, (fdT u).cell = some z
    rw [e]
    constructor
    · intro hz
      rcases List.mem_cons.mp hz with rfl | hz
      · exact ⟨.one 1 ["put", "b", "c"] "put b c", by simp, rfl⟩
      · rw [List.mem_singleton.mp hz]
        exact ⟨.one 2 ["swap", "c", "t", "c2"] "swap c t into c2", by simp, rfl⟩
    · rintro ⟨u, hu, hz⟩
      simp only [List.mem_cons, List.not_mem_nil, or_false] at hu
      rcases hu with rfl | rfl | rfl | rfl | rfl
      · exact noS hz
      · obtain rfl : ("c" : Str) = z := Option.some.inj hz
        decide +kernel
      · obtain rfl : ("b" : Str) = z := Option.some.inj hz
        decide +kernel
      · exact noS hz
      · exact noS hz
section
variable {w : World} {K : PySem.W.Frag} {mg : Str → Option Value} {base : Heap} {A : Ads}
/-- what is told of the empty call, of the one call -/
def toldE : PyData := .list [.str "call a", .tuple [.str "call a"], .tuple [], .tuple [], .int 0, .tuple [], .str "Call(0 statements, 0 steps)"]
theorem toldE_ok : toldE.showable = true ∧ toldE.hasDict = false ∧ toldE.depth ≤ 60 ∧ toldE.shown.length ≤ sizeLine := ⟨by decide +kernel, by decide +kernel, by decide +kernel, by decide +kernel⟩
def toldO : PyData := .list [.tuple [.str "t", .str "c2", .str "u"], .tuple [.str "b", .str "c"], .int 1, .str "Call(5 statements, 1 steps)", .str "call c d c"]
theorem toldO_ok : toldO.showable = true ∧ toldO.hasDict = false ∧ toldO.depth ≤ 60 ∧ toldO.shown.length ≤ sizeLine := ⟨by decide +kernel, by decide +kernel, by decide +kernel, by decide +kernel⟩
theorem e_tx : textC ⟨"a", [], [], []⟩ = "call a" := by decide +kernel
theorem e_ln : linesC ⟨"a", [], [], []⟩ = [("call a" : Str)] := by decide +kernel
theorem e_sl : slotsF [] (allB []) = ([] : List Str) := by decide +kernel
theorem e_rp : reprC (amB []) (pcB []) = "Call(0 statements, 0 steps)" := by decide +kernel
theorem e_pc : ((pcB [] : Nat) : Int) = 0 := by decide +kernel
theorem o_sl : slotsF ["d", "c"] (allB tO) = [("t" : Str), "c2", "u"] := by decide +kernel
theorem o_pc : ((pcB tO : Nat) : Int) = 1 := by decide +kernel
theorem o_rp : reprC (amB tO) (pcB tO) = "Call(5 statements, 1 steps)" := by decide +kernel
theorem o_hd : headC ⟨"c", ["d", "c"], tO, ["b", "c"]⟩ = "call c d c" := by
  show Txt.join " " ["call", "c", "d", "c"] = _
  decide +kernel
def spLaw (K : PySem.W.Frag) : Sp := fun vs H Q _ => ∃ (a : Addr) (ns : List Int), vs = [.ref a] ∧ SqL K H a (ns.map V.int) ∧ ns.length ≤ 63 ∧ (∀ z ∈ ns, Builtin.Int.intBits z ≤ 1048576) ∧ ∀ H', Q (.bl true) H'
theorem ok_law (T : Txt K mg A) : FnG P w K mg base CX0 27 A.a_law A.d_law ["_law_numbers"] (spLaw K) := by
  have nd := sc_law.nd
  refine Fun_okG T.f_law sc_law (fun vs H Q E h => ?_) (fun cdv A' outer s H vs Q E hr hG h => ?_)
  · obtain ⟨v, ns, rfl, _⟩ := h
    rfl
  · obtain ⟨a, ns, rfl, hS, hl, hb, k⟩ := h
    refine ⟨_, (pss_cons (ps_if (pt_not (pt_val (pe_callG0 (ok_law_shared_right T) (hr.mono (by decide)) hG (by rfl) T.m_law_shared_right T.k_law_shared_right T.v_law_shared_right .nil pass0))) (pss_one (ps_ret pe_bl)) pss_nil)
      (pss_cons (ps_set (i := 1) nd rfl (Or.inl rfl) (pe_make T.mk_Call (ok_Call___init__ T) (hr.mono (by decide)) (by rfl) T.m_Call T.v_Call___init__ .nil pass0 (pa_cons pe_str (pa_cons (pe_tupX pa_nil) (pa_cons (pe_tupX pa_nil) pa_nil)))))
      (pss_cons (ps_set (i := 2) nd rfl (Or.inl rfl) (pe_lst (pa_cons (pe_callTy (call_strF (CC := fun C => C = A.c_Call) (ok_Call___str__ T) (hr.mono (by decide)) (fun C h => h ▸ T.sp_Call___str__) T.v_Call___str__ pass0) (by rfl) T.b_str (by decide +kernel) (pa_cons (pv 1) pa_nil)) (pa_cons (pe_prop (pv 1) T.cl_Call T.pr_Call_lines (ok_Call_lines T) (hr.mono (by decide)) T.v_Call_lines .nil pass0 rfl) (pa_cons (pe_fld (pv 1) rfl) (pa_cons (pe_prop (pv 1) T.cl_Call T.pr_Call_cells (ok_Call_cells T) (hr.mono (by decide)) T.v_Call_cells .nil pass0 rfl) (pa_cons (pe_prop (pv 1) T.cl_Call T.pr_Call_steps (ok_Call_steps T) (hr.mono (by decide)) T.v_Call_steps .nil pass0 rfl) (pa_cons (pe_fld (pv 1) rfl) (pa_cons (pe_callB (call_reprF (CC := fun C => C = A.c_Call) (ok_Call___repr__ T) (hr.mono (by decide)) (fun C h => h ▸ T.sp_Call___repr__) T.v_Call___repr__ pass0) (by rfl) T.b_repr (by decide +kernel) (pa_cons (pv 1) pa_nil)) pa_nil)))))))))
      (pss_cons (ps_if (pt_cmpR op_ne (pe_callB (call_repr hr hG) (by rfl) T.b_repr (by decide +kernel) (pa_cons (pv 2) pa_nil)) (pe_callB (call_repr hr hG) (by rfl) T.b_repr (by decide +kernel) (pa_cons (pe_lst (pa_cons pe_str (pa_cons (pe_tup (pa_cons pe_str pa_nil)) (pa_cons (pe_tupX pa_nil) (pa_cons (pe_tupX pa_nil) (pa_cons pe_int (pa_cons (pe_tupX pa_nil) (pa_cons pe_str pa_nil)))))))) pa_nil)) (nomark _)) (pss_one (ps_ret pe_bl)) pss_nil)
      (pss_cons (ps_set (i := 3) nd rfl (Or.inl rfl) (pe_make T.mk_Call (ok_Call___init__ T) (hr.mono (by decide)) (by rfl) T.m_Call T.v_Call___init__ .nil pass0 (pa_cons pe_str (pa_cons (pe_tupX (pa_cons pe_str (pa_cons pe_str pa_nil))) (pa_cons (pe_tup (pa_cons (pe_make T.mk_Joined (ok_Joined___init__ T) (hr.mono (by decide)) (by rfl) T.m_Joined T.v_Joined___init__ .nil pass0 (pa_cons (pe_tup (pa_cons (pe_make T.mk_Swap (ok_Swap___init__ T) (hr.mono (by decide)) (by rfl) T.m_Swap T.v_Swap___init__ .nil pass0 (pa_cons pe_str (pa_cons pe_str (pa_cons pe_str pa_nil)))) (pa_cons (pe_make T.mk_Put (ok_Put___init__ T) (hr.mono (by decide)) (by rfl) T.m_Put T.v_Put___init__ .nil pass0 (pa_cons pe_str (pa_cons pe_str pa_nil))) pa_nil))) pa_nil)) (pa_cons (pe_make T.mk_Let (ok_Let___init__ T) (hr.mono (by decide)) (by rfl) T.m_Let T.v_Let___init__ .nil pass0 (pa_cons pe_str (pa_cons pe_str pa_nil))) (pa_cons (pe_make T.mk_Return (ok_Return___init__ T) (hr.mono (by decide)) (by rfl) T.m_Return T.v_Return___init__ .nil pass0 (pa_cons pe_str pa_nil)) pa_nil)))) pa_nil)))))
      (pss_cons (ps_set (i := 2) nd rfl (Or.inl rfl) (pe_lst (pa_cons (pe_fld (pv 3) rfl) (pa_cons (pe_prop (pv 3) T.cl_Call T.pr_Call_cells (ok_Call_cells T) (hr.mono (by decide)) T.v_Call_cells .nil pass0 rfl) (pa_cons (pe_prop (pv 3) T.cl_Call T.pr_Call_steps (ok_Call_steps T) (hr.mono (by decide)) T.v_Call_steps .nil pass0 rfl) (pa_cons (pe_callB (call_reprF (CC := fun C => C = A.c_Call) (ok_Call___repr__ T) (hr.mono (by decide)) (fun C h => h ▸ T.sp_Call___repr__) T.v_Call___repr__ pass0) (by rfl) T.b_repr (by decide +kernel) (pa_cons (pv 3) pa_nil)) (pa_cons (pe_ix ix_tup (pe_prop (pv 3) T.cl_Call T.pr_Call_lines (ok_Call_lines T) (hr.mono (by decide)) T.v_Call_lines .nil pass0 rfl) pe_int (fun _ _ => rfl)) pa_nil)))))))
      (pss_cons (ps_set (i := 4) nd rfl (Or.inl rfl) (pe_lst (pa_cons (pe_tup (pa_cons pe_str (pa_cons pe_str (pa_cons pe_str pa_nil)))) (pa_cons (pe_tup (pa_cons pe_str (pa_cons pe_str pa_nil))) (pa_cons pe_int (pa_cons pe_str (pa_cons pe_str pa_nil)))))))
      (pss_cons (ps_if (pt_cmpR op_ne (pe_callB (call_repr hr hG) (by rfl) T.b_repr (by decide +kernel) (pa_cons (pv 2) pa_nil)) (pe_callB (call_repr hr hG) (by rfl) T.b_repr (by decide +kernel) (pa_cons (pv 4) pa_nil)) (nomark _)) (pss_one (ps_ret pe_bl)) pss_nil)
      (pss_one (ps_ret (pe_callB (cr_all rfl) (by rfl) T.b_all (by decide +kernel) (pa_cons (pe_lc (own := [("_law_k", 5)]) (g := gName 5) (tt := tYes) rfl nd (pi_range1 (by rfl) T.b_range (pa_cons (pe_callB (call_max2 rfl) (by rfl) T.b_max (by decide +kernel) (pa_cons pe_int (pa_cons (pe_callB (call_min2 rfl) (by rfl) T.b_min (by decide +kernel) (pa_cons (pe_callB call_len_seq (by rfl) T.b_len (by decide +kernel) (pa_cons (pv 0) pa_nil)) (pa_cons pe_int pa_nil))) pa_nil))) pa_nil)) (blkOk_by (N := nm_law) (sc := defScope st_law) (by decide +kernel)) (fun _ _ _ _ _ => (pg_name (i := 5) nd rfl (Or.inl rfl))) (fun _ _ _ _ _ => pts_nil) (fun _ _ _ _ _ => (pe_callG (ok_law_right T) (hr.mono (by decide)) hG (by rfl) T.m_law_right T.k_law_right T.v_law_right .nil pass0 (pa_cons (pe_call (ok_law_source T) (hr.mono (by decide)) (by rfl) T.m_law_source T.k_law_source T.v_law_source .nil pass0 (pa_cons (pe_call (ok_law_number T) (hr.mono (by decide)) (by rfl) T.m_law_number T.k_law_number T.v_law_number .nil pass0 (pa_cons (pv 0) (pa_cons (pv 5) pa_nil))) pa_nil)) pa_nil)))) pa_nil)))))))))))), ?_⟩
    refine ⟨rfl, fun H0 s0 => ⟨_, rfl, ?_⟩⟩
    refine ⟨Nat.zero_le _, fun f1 o1 ho1 m1 => ⟨Nat.zero_le _, fun f2 o2 ho2 m2 => fun x dx nx ndx nex => ?_⟩⟩
    have g1 := same_new (o := .frz o1 (.tup [])) m1
    have g2 := same_new (o := .frz o2 (.tup [])) m2
    have g3 := laid_same (C := A.c_Call) nx ndx
    refine ⟨x, dx, f1, f2, [], ⟨"a", [], [], []⟩, rfl, upd_same, ⟨o1, ho1, (g2.trans g3) _ _ upd_same⟩, TX.sq ⟨o2, ho2, g3 _ _ upd_same⟩, .nil, cl_empty, fun H1 ca kb1 => ⟨rfl, ?_⟩⟩
    have s1 := s0.trans ((g1.trans g2).trans (made_same nx ndx kb1))
    have ca' := ca
    obtain ⟨dx1, fs1, pp, pb, pcc, psl, pz, bs, i1, iN, i2, i3, i4, i5, i6, i7, i8, i9, i10, i11, i12, i13, iok⟩ := ca'
    have bs0 : bs = [] := by cases i7; rfl
    subst bs0
    have i11 : SqT K H1 psl ((slotsF [] (allB [])).map V.str) := i11
    rw [e_sl] at i11
    refine ⟨_, rfl, x, A.c_Call, dx1, fs1, rfl, rfl, i1, x, _, rfl, ca, fun U1 u1 => ⟨_, rfl, ?_⟩⟩
    refine ⟨_, rfl, x, dx1, fs1, rfl, u1 _ _ i1, x, _, rfl, ca.mv (KpT.of_same u1), fun ll U2 u2 hll => ?_⟩
    have u12 := u1.trans u2
    have ca2 := ca.mv (KpT.of_same u12)
    refine ⟨_, rfl, x, A.c_Call, dx1, fs1, _, rfl, u12 _ _ i1, T.cl_Call, T.na_Call_slots, i10, ?_⟩
    refine ⟨_, rfl, x, dx1, fs1, rfl, u12 _ _ i1, x, _, rfl, ca2, fun pcl hpc => ?_⟩
    refine ⟨_, rfl, x, dx1, fs1, rfl, u12 _ _ i1, x, _, rfl, ca2, ?_⟩
    refine ⟨_, rfl, x, A.c_Call, dx1, fs1, _, rfl, u12 _ _ i1, T.cl_Call, T.na_Call_body, i5, ?_⟩
    refine ⟨_, rfl, x, A.c_Call, dx1, fs1, rfl, rfl, u12 _ _ i1, x, _, rfl, ca2, _, rfl, (by show 7 ≤ sizeLine; decide), fun l1 nl1 => ?_⟩
    have dpE : ∀ (U : Hp) (a1 a2 a3 a4 : Addr), SqT K U a1 [.str "call a"] → SqT K U a2 [] → SqT K U a3 [] → SqT K U a4 [] → DpAll K U [.str "call a", .ref a1, .ref a2, .ref a3, .int 0, .ref a4, .str "Call(0 statements, 0 steps)"] [.str "call a", .tuple [.str "call a"], .tuple [], .tuple [], .int 0, .tuple [], .str "Call(0 statements, 0 steps)"] :=
      fun U a1 a2 a3 a4 h1 h2 h3 h4 => .cons (.str _) (.cons (.tup h1 (.cons (.str _) .nil)) (.cons (.tup h2 .nil) (.cons (.tup h3 .nil) (.cons (.int _) (.cons (.tup h4 .nil) (.cons (.str _) .nil))))))
    have el : ∀ (b1 b2 b3 b4 : Addr), [V.str (textC ⟨"a", [], [], []⟩), .ref b1, .ref b2, .ref b3, .int ((pcB [] : Nat) : Int), .ref b4, .str (reprC (amB []) (pcB []))] = [V.str "call a", .ref b1, .ref b2, .ref b3, .int 0, .ref b4, .str "Call(0 statements, 0 steps)"] := fun b1 b2 b3 b4 => by rw [e_tx, e_pc, e_rp]
    have dpE2 : ∀ (U : Hp) (a1 a2 a3 a4 : Addr), SqT K U a1 [.str "call a"] → SqT K U a2 [] → SqT K U a3 [] → SqT K U a4 [] → DpAll K U [V.str (textC ⟨"a", [], [], []⟩), .ref a1, .ref a2, .ref a3, .int ((pcB [] : Nat) : Int), .ref a4, .str (reprC (amB []) (pcB []))] [.str "call a", .tuple [.str "call a"], .tuple [], .tuple [], .int 0, .tuple [], .str "Call(0 statements, 0 steps)"] :=
      fun U a1 a2 a3 a4 h1 h2 h3 h4 => by
        rw [el]
        exact dpE U a1 a2 a3 a4 h1 h2 h3 h4
    rw [e_ln] at hll
    have u3 := same_new (o := .lst [V.str (textC ⟨"a", [], [], []⟩), .ref ll, .ref psl, .ref pcl, .int ((pcB [] : Nat) : Int), .ref pb, .str (reprC (amB []) (pcB []))]) nl1
    have u13 := u12.trans u3
    have tokE := toldE_ok
    refine ⟨_, rfl, l1, toldE, rfl, .lst (SqL.of upd_same) (dpE2 _ _ _ _ _ (SqT.of (u3 _ _ hll)) ((KpT.of_same u13).sq i11) ((KpT.of_same u3).sq hpc) ((KpT.of_same u13).sq i6)), tokE.1, tokE.2.1, tokE.2.2.1, tokE.2.2.2, ?_⟩
    refine ⟨(by show 1 ≤ sizeLine; decide), fun t1 nt1 => ⟨Nat.zero_le _, fun t2 b2 hb2 nt2 => ⟨Nat.zero_le _, fun t3 b3 hb3 nt3 => ⟨Nat.zero_le _, fun t4 b4 hb4 nt4 => ⟨(by show 7 ≤ sizeLine; decide), fun l2 nl2 => ?_⟩⟩⟩⟩⟩
    have y1 := same_new (o := .tup [.str "call a"]) nt1
    have y2 := same_new (o := .frz b2 (.tup [])) nt2
    have y3 := same_new (o := .frz b3 (.tup [])) nt3
    have y4 := same_new (o := .frz b4 (.tup [])) nt4
    have y5 := same_new (o := .lst [.str "call a", .ref t1, .ref t2, .ref t3, .int 0, .ref t4, .str "Call(0 statements, 0 steps)"]) nl2
    have y25 := ((y2.trans y3).trans y4).trans y5
    refine ⟨l2, toldE, rfl, .lst (SqL.of upd_same) (dpE _ _ _ _ _ (SqT.of (y25 _ _ upd_same)) (TX.sq ⟨b2, hb2, ((y3.trans y4).trans y5) _ _ upd_same⟩) (TX.sq ⟨b3, hb3, (y4.trans y5) _ _ upd_same⟩) (TX.sq ⟨b4, hb4, y5 _ _ upd_same⟩)), tokE.1, tokE.2.1, tokE.2.2.1, tokE.2.2.2, rfl, _, rfl, (if_neg (by show ¬ (!decide _) = true; rw [decide_eq_true rfl]; decide)).mpr ?_⟩
    refine abs_heap (fun U => Same H U) ((s1.trans u13).trans (y1.trans y25)) ?_
    intro U4 s4
    refine ⟨(by show 2 ≤ sizeLine; decide), fun e1 ob1 hob1 me1 => ?_⟩
    have z0 := same_new (o := .frz ob1 (.tup [.str "d", .str "c"])) me1
    have nm : ∀ {z : Str}, (isNameV (.str z) && z.cps.toList.all Aln && decide (z.length ≤ 8)) = true → NameT z := nameBy
    have op : ∀ {z : Str}, (isOperV (.str z) && z.cps.toList.all Aln && decide (z.length ≤ 8)) = true → OperT z := operBy
    refine fun w1 dw1 nw1 ndw1 new1 => ⟨w1, dw1, "c", "t", "c2", rfl, upd_same, nm (by decide +kernel), op (by decide +kernel), nm (by decide +kernel), fun V1 sap1 kv1 => ⟨rfl, ?_⟩⟩
    have z1 := made_same nw1 ndw1 kv1
    have sw1 : StT K A V1 w1 (.one 2 ["swap", "c", "t", "c2"] "swap c t into c2") := one_st sap1
    refine fun w2 dw2 nw2 ndw2 new2 => ⟨w2, dw2, "b", "c", rfl, upd_same, nm (by decide +kernel), op (by decide +kernel), fun V2 sap2 kv2 => ⟨rfl, (by show 2 ≤ sizeLine; decide), fun pj npj => ?_⟩⟩
    have z2 := made_same nw2 ndw2 kv2
    have sw2 : StT K A V2 w2 (.one 1 ["put", "b", "c"] "put b c") := one_st sap2
    have z3 := same_new (o := .tup [.ref w1, .ref w2]) npj
    refine fun w3 dw3 nw3 ndw3 new3 => ?_
    have z4 := laid_same (C := A.c_Joined) nw3 ndw3
    refine ⟨w3, dw3, pj, [w1, w2], [.one 2 ["swap", "c", "t", "c2"] "swap c t into c2", .one 1 ["put", "b", "c"] "put b c"], rfl, upd_same, SqT.of (z4 _ _ upd_same), .cons (sw1.mv (KpT.of_same (z2.trans (z3.trans z4)))) (.cons (sw2.mv (KpT.of_same (z3.trans z4))) .nil), by decide +kernel, by decide +kernel, by decide +kernel, fun V3 stJ kv3 => ⟨rfl, ?_⟩⟩
    have z5 := made_same nw3 ndw3 kv3
    refine fun w4 dw4 nw4 ndw4 new4 => ⟨w4, dw4, "t", "d", rfl, upd_same, nm (by decide +kernel), op (by decide +kernel), fun V4 sap4 kv4 => ⟨rfl, ?_⟩⟩
    have z6 := made_same nw4 ndw4 kv4
    have sw4 : StT K A V4 w4 (.one 4 ["let", "t", "d"] "let t d") := one_st sap4
    refine fun w5 dw5 nw5 ndw5 new5 => ⟨w5, dw5, "u", rfl, upd_same, op (by decide +kernel), fun V5 sap5 kv5 => ⟨rfl, (by show 3 ≤ sizeLine; decide), fun pt npt => ?_⟩⟩
    have z7 := made_same nw5 ndw5 kv5
    have sw5 : StT K A V5 w5 (.one 6 ["return", "u"] "return u") := one_st sap5
    have z8 := same_new (o := .tup [.ref w3, .ref w4, .ref w5]) npt
    refine fun x2 dx2 nx2 ndx2 nex2 => ?_
    have z9 := laid_same (C := A.c_Call) nx2 ndx2
    have z89 := z8.trans z9
    have z19 := ((z1.trans z2).trans (z3.trans z5)).trans ((z6.trans z7).trans z89)
    refine ⟨x2, dx2, e1, pt, [w3, w4, w5], ⟨"c", ["d", "c"], tO, ["b", "c"]⟩, rfl, upd_same, ⟨ob1, hob1, z19 _ _ upd_same⟩, SqT.of (z9 _ _ upd_same), .cons (stJ.mv (KpT.of_same (z6.trans (z7.trans z89)))) (.cons (sw4.mv (KpT.of_same (z7.trans z89))) (.cons (sw5.mv (KpT.of_same z89)) .nil)), cl_one, fun H5 cb kb5 => ⟨rfl, ?_⟩⟩
    have s5 : Same H H5 := s4.trans (z0.trans (((z1.trans z2).trans (z3.trans z5)).trans ((z6.trans z7).trans (z8.trans (made_same nx2 ndx2 kb5)))))
    have cb' := cb
    obtain ⟨dy1, gs1, qp, qb, qc, qs, qz, cs, j1, jN, j2, j3, j4, j5, j6, j7, j8, j9, j10, j11, j12, j13, jok⟩ := cb'
    have j11 : SqT K H5 qs ((slotsF ["d", "c"] (allB tO)).map V.str) := j11
    rw [o_sl] at j11
    refine ⟨_, rfl, x2, A.c_Call, dy1, gs1, _, rfl, j1, T.cl_Call, T.na_Call_slots, j10, ?_⟩
    refine ⟨_, rfl, x2, dy1, gs1, rfl, j1, x2, _, rfl, cb, fun qcl hqc => ?_⟩
    refine ⟨_, rfl, x2, dy1, gs1, rfl, j1, x2, _, rfl, cb, ?_⟩
    refine ⟨_, rfl, x2, A.c_Call, dy1, gs1, rfl, rfl, j1, x2, _, rfl, cb, _, rfl, ?_⟩
    refine ⟨_, rfl, x2, dy1, gs1, rfl, j1, x2, _, rfl, cb, fun ll2 U6 u6 hll2 => ⟨ll2, _, _, _, rfl, rfl, SqT.of hll2, atI_nat (j := 0) rfl, (by show 5 ≤ sizeLine; decide), fun l3 nl3 => ?_⟩⟩
    have dpO : ∀ (U : Hp) (a1 a2 : Addr), SqT K U a1 [.str "t", .str "c2", .str "u"] → SqT K U a2 [.str "b", .str "c"] → DpAll K U [.ref a1, .ref a2, .int 1, .str "Call(5 statements, 1 steps)", .str "call c d c"] [.tuple [.str "t", .str "c2", .str "u"], .tuple [.str "b", .str "c"], .int 1, .str "Call(5 statements, 1 steps)", .str "call c d c"] :=
      fun U a1 a2 h1 h2 => .cons (.tup h1 (.cons (.str _) (.cons (.str _) (.cons (.str _) .nil)))) (.cons (.tup h2 (.cons (.str _) (.cons (.str _) .nil))) (.cons (.int _) (.cons (.str _) (.cons (.str _) .nil))))
    have el2 : ∀ (b1 b2 : Addr), [V.ref b1, .ref b2, .int ((pcB tO : Nat) : Int), .str (reprC (amB tO) (pcB tO)), .str (headC ⟨"c", ["d", "c"], tO, ["b", "c"]⟩)] = [V.ref b1, .ref b2, .int 1, .str "Call(5 statements, 1 steps)", .str "call c d c"] := fun b1 b2 => by rw [o_pc, o_rp, o_hd]
    have dpO2 : ∀ (U : Hp) (a1 a2 : Addr), SqT K U a1 [.str "t", .str "c2", .str "u"] → SqT K U a2 [.str "b", .str "c"] → DpAll K U [V.ref a1, .ref a2, .int ((pcB tO : Nat) : Int), .str (reprC (amB tO) (pcB tO)), .str (headC ⟨"c", ["d", "c"], tO, ["b", "c"]⟩)] [.tuple [.str "t", .str "c2", .str "u"], .tuple [.str "b", .str "c"], .int 1, .str "Call(5 statements, 1 steps)", .str "call c d c"] := fun U a1 a2 h1 h2 => by
      rw [el2]
      exact dpO U a1 a2 h1 h2
    refine ⟨(by show 3 ≤ sizeLine; decide), fun q1 nq1 => ⟨(by show 2 ≤ sizeLine; decide), fun q2 nq2 => ⟨(by show 5 ≤ sizeLine; decide), fun l4 nl4 => ?_⟩⟩⟩
    have v1 := same_new (o := .lst [V.ref qs, .ref qcl, .int ((pcB tO : Nat) : Int), .str (reprC (amB tO) (pcB tO)), .str (headC ⟨"c", ["d", "c"], tO, ["b", "c"]⟩)]) nl3
    have v2 := same_new (o := .tup [.str "t", .str "c2", .str "u"]) nq1
    have v3 := same_new (o := .tup [.str "b", .str "c"]) nq2
    have v4 := same_new (o := .lst [.ref q1, .ref q2, .int 1, .str "Call(5 statements, 1 steps)", .str "call c d c"]) nl4
    have v24 := (v2.trans v3).trans v4
    have v14 := v1.trans v24
    have u64 := u6.trans v14
    have tokO := toldO_ok
    refine ⟨_, rfl, l3, toldO, rfl, .lst (SqL.of (v24 _ _ upd_same)) (dpO2 _ _ _ ((KpT.of_same u64).sq j11) ((KpT.of_same u64).sq hqc)), tokO.1, tokO.2.1, tokO.2.2.1, tokO.2.2.2, _, rfl, l4, toldO, rfl, .lst (SqL.of upd_same) (dpO _ _ _ (SqT.of ((v3.trans v4) _ _ upd_same)) (SqT.of (v4 _ _ upd_same))), tokO.1, tokO.2.1, tokO.2.2.1, tokO.2.2.2, rfl, _, rfl, (if_neg (by show ¬ (!decide _) = true; rw [decide_eq_true rfl]; decide)).mpr ?_⟩
    refine abs_heap (fun U => Same H U) (s5.trans u64) ?_
    intro U7 s7
    refine ⟨_, rfl, a, _, rfl, Or.inl (s7.seq hS), _, _, rfl, _, _, rfl, ?_⟩
    generalize hj : (if (if 5 < ((ns.map V.int).length : Int) then (5 : Int) else ((ns.map V.int).length : Int)) > 2 then (if 5 < ((ns.map V.int).length : Int) then (5 : Int) else ((ns.map V.int).length : Int)) else 2) = j
    have hj2 : 0 ≤ j ∧ j ≤ 8 := by
      rw [← hj]
      split
      · split <;> omega
      · omega
    refine ⟨j, rfl, by omega, by omega, ?_⟩
    intro D hD0
    have hD : H D = none := s7.free hD0
    refine lc_range (lo := 0) (n := j.toNat) (fun i H2 => Same H H2 ∧ H2 D = some (.lst (List.replicate i (V.bl true)))) ⟨s7.trans (same_new hD0), upd_same⟩ ?_ ?_
    · rintro i H2 hi ⟨s2, hd⟩
      refine ⟨rfl, _, rfl, _, rfl, a, ns, _, rfl, s2.seq hS, hb, by omega, by omega, fun n H3 s3 => ⟨n, rfl, fun p H4 hp s4 src => ⟨p, rfl, src, fun H5 kb => ?_⟩⟩⟩
      have hd3 := s3 _ _ hd
      have hDp : D ≠ p := ne_of_none hd3 hp
      refine ⟨List.replicate i (V.bl true), kb _ _ hDp (s4 _ _ hd3), ?_, ?_, ?_⟩
      · rw [List.length_replicate]
        exact lt5000 (by omega)
      · intro b o e
        have hb1 : b ≠ D := ne_of_none e hD
        have hb2 : b ≠ p := ne_of_none (s3 _ _ (s2 _ _ e)) hp
        rw [upd_ne hb1]
        exact kb _ _ hb2 (s4 _ _ (s3 _ _ (s2 _ _ e)))
      · rw [upd_same, List.replicate_succ']
    · rintro H2 ⟨s2, hd⟩
      refine ⟨D, List.replicate j.toNat true, rfl, SqL.of ?_, ?_⟩
      · rw [hd, List.map_replicate]
      · have e : (List.replicate j.toNat true).all id = true := by simp
        rw [e]
        exact k H2
end
end K07
set_option Elab.async false
set_option linter.all false
set_option maxRecDepth 100000
set_option maxHeartbeats 0
open PySem PySem.W PySem.Calls PyProof.Rows
theorem PySem.Challenge.cw_momentcalls_k07_calls_made_holds : PySem.Challenge.rw_momentcalls_k07_calls_made.Holds := by
  w_on; o_law
  refine HandSHeadRun.head_any (r := OpenLaw.row PySem.Challenge.rw_momentcalls_k07_calls_made) (q := view (OpenLaw.row PySem.Challenge.rw_momentcalls_k07_calls_made).prog [94]) (H := K07HdB.hk) (ob := K07HdB.ob) (M := 20000) (loose := K07HdB.names) (d := HandSHeadRun.topDef (OpenLaw.row PySem.Challenge.rw_momentcalls_k07_calls_made).prog 94) (kwd := []) K07HdB.ob_eq
    (by kernel_rfl) (fun s => by kernel_rfl) K07HdB.run (by kernel_rfl) (by kernel_rfl) (by kernel_rfl) (by rfl) (by first | assumption | decide +kernel) (by decide +kernel) ⟨rfl, rfl, rfl, rfl, rfl, by decide +kernel⟩ ?hw ?hc
  case hw => w_witness2
  case hc =>
    refine Mo.walk_M (l := PySem.Challenge.rw_momentcalls_k07_calls_made) (n := 63) (k := 27) (x := "_law_numbers") rfl (by decide) (by kernel_rfl) ⟨rfl, by decide, by decide⟩ ?F
    intro w mg fa h Y G hmg0
    obtain ⟨K, KX, c, e⟩ := Y
    obtain ⟨T, hb⟩ := K07.txt_of KX G c e
    have hmg : mg ("law" : PySem.Str) = some (.ref fa) := by
      have e : (HandSHeadRun.topDef (OpenLaw.row PySem.Challenge.rw_momentcalls_k07_calls_made).prog 94).name = ("law" : PySem.Str) := by kernel_rfl
      rw [← e]
      exact hmg0
    rw [T.m_law] at hmg
    cases hmg
    exact ⟨K, (K07.adsOf K).d_law, K07.spLaw K, KX, hb, fun H a ns h1 h2 _ h4 => ⟨a, ns, rfl, h4, h1, h2, fun _ => rfl⟩, fun base _ _ => K07.ok_law T⟩
#print axioms PySem.Challenge.cw_momentcalls_k07_calls_made_holds
