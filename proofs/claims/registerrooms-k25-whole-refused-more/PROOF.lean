import PyProof.Rows.All
import Wide.All
import OpenK.AllK
import Wide.FinOn
import HandS.Slots
import HandS.SlotsOwn
import HandS.Lambda
import HandS.ExcField
import HandS.Words
import HandS.Defaults
import HandS.More
import HandS.Ends
import KE.KSuper
import KE.KStateDown
import HandS.Head0
import HandS.Head1
import HandS.Head2
import HandS.HeadEnd
import HandS.HeadHook1
import HandS.HeadHook2
import HandS.HeadHook3
import HandS.HeadHook4
import HandS.HeadWalk
import HandS.ForMost
import HandS.Exc
import HandS.IsInst
import HandS.ExcOwn
import HandS.WordsExc
import HandS.Star
import HandS.Steps
import HandS.TupAny
import HandS.Text
import HandS.Codes
import HandS.SetFor
import HandS.RaiseMore
import PyProof.Rows.CountFlat
import HandS.Dict
import HandS.SetKeys
import HandS.Iter
import HandS.DictComp
import HandS.WrittenGet
import PyProof.DictUpdate
import HandS.Zip
import KE.KDictCopyH
import KE.GoesMore
import KE.GoesZip
import HandS.MakeKwOnly
import HandS.ClsMeth
import HandS.ExcInit
import KE.KExcSuper
import HandS.TryMany
import HandS.ExcIs
import KE.GoesEnum
import KE.KWithOwn
import HandS.HotCalls
import HandS.Finally
import PySem.Challenge.RW_registerrooms_k25_whole_refused_more
set_option Elab.async false
set_option linter.all false
set_option maxRecDepth 100000
set_option maxHeartbeats 4000000
/-! What the head is asked: all of it as data and Bools. -/
namespace MR
open PySem PySem.Spec PyProof.Rows L2 He
abbrev cw : Str := "__class__"
def sOf (x : List Nat) : Str := ⟨⟨x⟩⟩
def top (i : Nat) : Stmt := PySem.Challenge.pw_registerrooms_k25_whole_refused_more.main.body.getD i (.Pass ⟨0, 0, 0, 0⟩)
def ixBlocks : Nat → Option Nat
  | 24 => some 0
  | 26 => some 3
  | 38 => some 3
  | _ => none
def ixHanded : Nat → Option Nat
  | 26 => some 0
  | 38 => some 0
  | _ => none
def ixMany : Nat → Option Nat
  | 26 => some 1
  | 38 => some 1
  | _ => none
def ixSpan : Nat → Option Nat
  | 26 => some 2
  | 38 => some 2
  | _ => none
def ixPast : Nat → Option Nat
  | 41 => some 2
  | 42 => some 3
  | _ => none
def ixNotes : Nat → Option Nat
  | 41 => some 1
  | 42 => some 2
  | _ => none
def ixFloor : Nat → Option Nat
  | 41 => some 0
  | 42 => some 1
  | _ => none
def ixDesk : Nat → Option Nat
  | 42 => some 0
  | _ => none
def tabSizes : List (List Nat × Int) := [([112, 117, 116], 3), ([109, 111, 118, 101], 3), ([97, 100, 100], 4), ([115, 117, 98], 4), ([108, 101, 115, 115], 4), ([116, 97, 107, 101], 2), ([116, 101, 108, 108], 2)]
def tabEnds : List (List Nat × Int) := [([103, 111], 2), ([112, 97, 114, 116], 4), ([115, 116, 111, 112], 1)]
def tx (s : String) : List Nat := s.toList.map Char.toNat
def misS : List (List Nat) := [tx "stop", tx "go", tx "part", tx "block", tx "join", tx "many", tx "single", tx "handed", tx "span", tx ""]
def misE : List (List Nat) := [tx "take", tx "tell", tx "put", tx "block", tx "join", tx "many", tx "single", tx "handed", tx "span", tx ""]
/-- what a function object is, but its code, doc, defaults -/
abbrev FW : Type := Option (Str × Str × Arguments × FuncBody × Scope × List Str)
def fwOf (K : PySem.W.Frag) (a : Addr) : FW := match K.lookup a with
  | some ⟨_, _, .func fd, _⟩ => some (fd.name, fd.qualname, fd.params, fd.body, fd.scope, fd.closure.map (·.1))
  | _ => none
/-- a def: its address, its name, qualified name, its text, its captured names -/
structure FnA where
  at_ : PySem.W.Frag → Addr
  name : Str
  qual : Str
  st : Stmt
  cl : List Str
def FnA.val (d : FnA) : FW := some (d.name, d.qual, defArgs d.st, .stmts (defBody d.st), defScope d.st, d.cl)
/-- what else is asked of it -/
def fnRest (K : PySem.W.Frag) (d : FnA) : Bool := PySem.W.keepIn K (.ref (d.at_ K)) && (PySem.W.fnIn K (d.at_ K) && (PySem.W.isFn K (.ref (d.at_ K)) && (match K.lookup (d.at_ K) with
  | some ⟨_, _, .func fd, _⟩ => PySem.W.codeIn K fd.code d.qual && (decide (fd.globals = mainGlobals) && (decide (fd.builtins = builtinsNs) && decide (fd.defaults = .none)))
  | _ => false)))
abbrev AlZ : Type := (Bool × List FW) × (List (Option (List (Option (Str × Int)))) × Bool)
/-- the code objects of two property's functions: they lie a round further -/
def xtraZ (g : Addr → Option Obj) (as : List Addr) : List Addr := as.filterMap fun a => match g a with
  | some ⟨_, _, .func fd, _⟩ => (match fd.name == ("now" : Str) || fd.name == ("journal" : Str) with
    | true => (match fd.code with
      | .ref c => some c
      | _ => none)
    | false => none)
  | _ => none
def asX (g : Addr → Option Obj) (as : List Addr) : List Addr := PySem.cStatics :: (xtraZ g as ++ as)
def asZ (g : Addr → Option Obj) (n : Nat) : List Addr := asX g (asD g n)
def obsZ (n : Nat) (fn : List FnA) (ts : List Tab) (tf : List (PySem.W.Frag → Addr × Addr)) (ex : PySem.W.Frag → Bool) (g : Addr → Option Obj) : AlZ :=
  let K := frT g (asZ g n)
  ((fn.all (fnRest K), fn.map fun d => fwOf K (d.at_ K)), (ts.map fun t => He.dicW K (t.1 K), ex K && tf.all fun p => PySem.W.codeHdIn K (p K).1 (p K).2 && (match g (p K).2 with
    | some o => emptyTab o
    | none => false)))
def valZ (fn : List FnA) (ts : List Tab) (w : World) : AlZ := ((true, fn.map FnA.val), (ts.map fun t => some (keysIn w.params t.2), true))
structure SaysZ (fn : List FnA) (ts : List Tab) (tf : List (PySem.W.Frag → Addr × Addr)) (ex : PySem.W.Frag → Bool) (w : World) (h : Heap) (K : PySem.W.Frag) : Prop where
  f1 : fn.all (fnRest K) = true
  f2 : (fn.map fun d => fwOf K (d.at_ K)) = fn.map FnA.val
  t : (ts.map fun t => He.dicW K (t.1 K)) = ts.map fun t => some (keysIn w.params t.2)
  more : ex K = true
  hd : ∀ p ∈ tf, PySem.W.codeHdIn K (p K).1 (p K).2 = true
  out : ∀ p ∈ tf, K.lookup (p K).2 = none
  empty : ∀ p ∈ tf, h.get? (p K).2 = some { cls := .none, data := .fields #[] }
theorem saysZ_of {n : Nat} {fn : List FnA} {ts : List Tab} {tf : List (PySem.W.Frag → Addr × Addr)} {ex : PySem.W.Frag → Bool} {w : World} {h : Heap} (e : obsZ n fn ts tf ex h.get? = valZ fn ts w) : SaysZ fn ts tf ex w h (frT h.get? (asZ h.get? n)) := by
  have e1 := congrArg (fun z : AlZ => z.1.1) e
  have e2 := congrArg (fun z : AlZ => z.1.2) e
  have e3 := congrArg (fun z : AlZ => z.2.1) e
  have e4 := congrArg (fun z : AlZ => z.2.2) e
  obtain ⟨h1, h2⟩ := ba (show (ex (frT h.get? (asZ h.get? n)) && _) = true from e4)
  have key : ∀ p ∈ tf, PySem.W.codeHdIn (frT h.get? (asZ h.get? n)) (p (frT h.get? (asZ h.get? n))).1 (p (frT h.get? (asZ h.get? n))).2 = true ∧ ∃ o, h.get? (p (frT h.get? (asZ h.get? n))).2 = some o ∧ emptyTab o = true := fun p hp => by
    obtain ⟨h3, h4⟩ := ba (List.all_eq_true.mp h2 p hp)
    refine ⟨h3, ?_⟩
    cases q : h.get? (p (frT h.get? (asZ h.get? n))).2 with
    | none => rw [q] at h4; cases h4
    | some o => rw [q] at h4; exact ⟨o, rfl, h4⟩
  exact ⟨e1, e2, e3, h1, fun p hp => (key p hp).1, fun p hp => by
    obtain ⟨_, o, q, z⟩ := key p hp
    exact frT_none q z, fun p hp => by
    obtain ⟨_, o, q, z⟩ := key p hp
    rw [q, emptyTab_eq z]⟩
def hookZ (n : Nat) (fn : List FnA) (ts : List Tab) (tf : List (PySem.W.Frag → Addr × Addr)) (ex : PySem.W.Frag → Bool) : PySem.W.Hook where
  α := AlZ
  obs := fun s => obsZ n fn ts tf ex s.heap.get?
  val := fun w => valZ fn ts w
  says := fun w h => ∃ K : PySem.W.Frag, K.In h ∧ SaysZ fn ts tf ex w h K
  of := fun _ _ e => ⟨_, frT_in, saysZ_of e⟩
  keeps := fun _ _ _ ⟨K, hK, c⟩ k => ⟨K, PySem.W.Frag.In.keeps hK k, ⟨c.f1, c.f2, c.t, c.more, c.hd, c.out, fun p hp => k _ _ (c.empty p hp)⟩⟩
theorem obsZ_eq {n : Nat} {fn : List FnA} {ts : List Tab} {tf : List (PySem.W.Frag → Addr × Addr)} {ex : PySem.W.Frag → Bool} {g : Addr → Option Obj} {s : Shared} (h : ∀ a, g a = s.heap.get? a) : obsZ n fn ts tf ex g = (hookZ n fn ts tf ex).obs s := by
  have e : g = s.heap.get? := funext h
  rw [e] <;> rfl
/-- its code object -/
def cdAt (K : PySem.W.Frag) (a : Addr) : Addr := match K.lookup a with
  | some ⟨_, _, .func fd, _⟩ => (match fd.code with
    | .ref c => c
    | _ => 0)
  | _ => 0
/-- a captured __class__: its cell, what stands in it -/
def ccAt (K : PySem.W.Frag) (a : Addr) : Addr := match K.lookup a with
  | some ⟨_, _, .func fd, _⟩ => (match fd.closure with
    | [(_, c)] => c
    | _ => 0)
  | _ => 0
def cellB (K : PySem.W.Frag) (c D : Addr) : Bool := match K.lookup c with
  | some ⟨_, _, .cell (some (.ref E)), _⟩ => decide (E = D)
  | _ => false
def kwAt (K : PySem.W.Frag) (a : Addr) : Value := match K.lookup a with
  | some ⟨_, _, .func fd, _⟩ => fd.kwdefaults
  | _ => .none
def pgA (K : PySem.W.Frag) (C : Addr) (m : Str) : Addr := match PySem.W.findIn K (.ref C) m with
  | some (some (.ref p)) => (match PySem.W.recIn K p "property" with
    | some (.ref a :: _) => a
    | _ => 0)
  | _ => 0
def d_BadProgram___init__ : FnA := ⟨fun K => ma K (ga K "BadProgram") "__init__", "__init__", "BadProgram.__init__", inClass (top 3) 0, [cw]⟩
def d_BadSingle___init__ : FnA := ⟨fun K => ma K (ga K "BadSingle") "__init__", "__init__", "BadSingle.__init__", inClass (top 4) 0, [cw]⟩
def d_BadText___init__ : FnA := ⟨fun K => ma K (ga K "BadText") "__init__", "__init__", "BadText.__init__", inClass (top 8) 0, [cw]⟩
def d_is_integer : FnA := ⟨fun K => ga K "is_integer", "is_integer", "is_integer", top 17, []⟩
def d_is_row : FnA := ⟨fun K => ga K "is_row", "is_row", "is_row", top 18, []⟩
def d_is_end : FnA := ⟨fun K => ga K "is_end", "is_end", "is_end", top 19, []⟩
def d_targets_of : FnA := ⟨fun K => ga K "targets_of", "targets_of", "targets_of", top 20, []⟩
def d_defined_by : FnA := ⟨fun K => ga K "defined_by", "defined_by", "defined_by", top 21, []⟩
def d_used_by : FnA := ⟨fun K => ga K "used_by", "used_by", "used_by", top 22, []⟩
def d_are_reached : FnA := ⟨fun K => ga K "are_reached", "are_reached", "are_reached", top 23, []⟩
def d_Blocks___init__ : FnA := ⟨fun K => ma K (ga K "Blocks") "__init__", "__init__", "Blocks.__init__", inClass (top 24) 1, []⟩
def d_Blocks___getitem__ : FnA := ⟨fun K => ma K (ga K "Blocks") "__getitem__", "__getitem__", "Blocks.__getitem__", inClass (top 24) 3, []⟩
def d_Blocks_rows : FnA := ⟨fun K => ma K (ga K "Blocks") "rows", "rows", "Blocks.rows", inClass (top 24) 5, []⟩
def d_Blocks_end : FnA := ⟨fun K => ma K (ga K "Blocks") "end", "end", "Blocks.end", inClass (top 24) 6, []⟩
def d_Blocks_followers : FnA := ⟨fun K => ma K (ga K "Blocks") "followers", "followers", "Blocks.followers", inClass (top 24) 7, []⟩
def d_Blocks_edges_into : FnA := ⟨fun K => ma K (ga K "Blocks") "edges_into", "edges_into", "Blocks.edges_into", inClass (top 24) 8, []⟩
def d_is_plain_block : FnA := ⟨fun K => ga K "is_plain_block", "is_plain_block", "is_plain_block", top 25, []⟩
def d_Program___init__ : FnA := ⟨fun K => ma K (ga K "Program") "__init__", "__init__", "Program.__init__", inClass (top 26) 1, [cw]⟩
def d_Program___eq__ : FnA := ⟨fun K => ma K (ga K "Program") "__eq__", "__eq__", "Program.__eq__", inClass (top 26) 2, []⟩
def d_Program_parts : FnA := ⟨fun K => ma K (ga K "Program") "parts", "parts", "Program.parts", inClass (top 26) 3, []⟩
def d_Program_with_blocks : FnA := ⟨fun K => ma K (ga K "Program") "with_blocks", "with_blocks", "Program.with_blocks", inClass (top 26) 4, []⟩
def d_check_program : FnA := ⟨fun K => ga K "check_program", "check_program", "check_program", top 27, []⟩
def d_is_single_block : FnA := ⟨fun K => ga K "is_single_block", "is_single_block", "is_single_block", top 32, []⟩
def d_definitions_of : FnA := ⟨fun K => ga K "definitions_of", "definitions_of", "definitions_of", top 33, []⟩
def d_are_joined : FnA := ⟨fun K => ga K "are_joined", "are_joined", "are_joined", top 34, []⟩
def d_known_behind : FnA := ⟨fun K => ga K "known_behind", "known_behind", "known_behind", top 35, []⟩
def d_at_end : FnA := ⟨fun K => ga K "at_end", "at_end", "at_end", top 36, []⟩
def d_are_strict : FnA := ⟨fun K => ga K "are_strict", "are_strict", "are_strict", top 37, []⟩
def d_Single___init__ : FnA := ⟨fun K => ma K (ga K "Single") "__init__", "__init__", "Single.__init__", inClass (top 38) 1, [cw]⟩
def d_Single___eq__ : FnA := ⟨fun K => ma K (ga K "Single") "__eq__", "__eq__", "Single.__eq__", inClass (top 38) 2, []⟩
def d_Single_parts : FnA := ⟨fun K => ma K (ga K "Single") "parts", "parts", "Single.parts", inClass (top 38) 3, []⟩
def d_check_single : FnA := ⟨fun K => ga K "check_single", "check_single", "check_single", top 39, []⟩
def d_Desk___init__ : FnA := ⟨fun K => ma K (ga K "Desk") "__init__", "__init__", "Desk.__init__", inClass (top 41) 1, []⟩
def d_Desk_now : FnA := ⟨fun K => pgA K (ga K "Desk") "now", "now", "Desk.now", inClass (top 41) 2, []⟩
def d_Desk_journal : FnA := ⟨fun K => pgA K (ga K "Desk") "journal", "journal", "Desk.journal", inClass (top 41) 3, []⟩
def d_Desk___len__ : FnA := ⟨fun K => ma K (ga K "Desk") "__len__", "__len__", "Desk.__len__", inClass (top 41) 4, []⟩
def d_Desk_changed : FnA := ⟨fun K => ma K (ga K "Desk") "changed", "changed", "Desk.changed", inClass (top 41) 5, []⟩
def d_Desk_put_row : FnA := ⟨fun K => ma K (ga K "Desk") "put_row", "put_row", "Desk.put_row", inClass (top 41) 6, []⟩
def d_Desk_take_row : FnA := ⟨fun K => ma K (ga K "Desk") "take_row", "take_row", "Desk.take_row", inClass (top 41) 7, []⟩
def d_Desk_turn_end : FnA := ⟨fun K => ma K (ga K "Desk") "turn_end", "turn_end", "Desk.turn_end", inClass (top 41) 8, []⟩
def d_Desk_undo : FnA := ⟨fun K => ma K (ga K "Desk") "undo", "undo", "Desk.undo", inClass (top 41) 9, []⟩
def d_Desk_branch : FnA := ⟨fun K => ma K (ga K "Desk") "branch", "branch", "Desk.branch", inClass (top 41) 10, []⟩
def d_Desk_trial : FnA := ⟨fun K => ma K (ga K "Desk") "trial", "trial", "Desk.trial", inClass (top 41) 11, []⟩
def d_Desk_attempt : FnA := ⟨fun K => ma K (ga K "Desk") "attempt", "attempt", "Desk.attempt", inClass (top 41) 12, []⟩
def d_Trial___init__ : FnA := ⟨fun K => ma K (ga K "Trial") "__init__", "__init__", "Trial.__init__", inClass (top 42) 1, []⟩
def d_Trial___enter__ : FnA := ⟨fun K => ma K (ga K "Trial") "__enter__", "__enter__", "Trial.__enter__", inClass (top 42) 2, []⟩
def d_Trial___exit__ : FnA := ⟨fun K => ma K (ga K "Trial") "__exit__", "__exit__", "Trial.__exit__", inClass (top 42) 3, []⟩
def d_lines_of : FnA := ⟨fun K => ga K "lines_of", "lines_of", "lines_of", top 45, []⟩
def d_number_in : FnA := ⟨fun K => ga K "number_in", "number_in", "number_in", top 46, []⟩
def d_headed : FnA := ⟨fun K => ga K "headed", "headed", "headed", top 47, []⟩
def d_row_in : FnA := ⟨fun K => ga K "row_in", "row_in", "row_in", top 48, []⟩
def d_end_in : FnA := ⟨fun K => ga K "end_in", "end_in", "end_in", top 49, []⟩
def d_join_in : FnA := ⟨fun K => ga K "join_in", "join_in", "join_in", top 50, []⟩
def d_block_at : FnA := ⟨fun K => ga K "block_at", "block_at", "block_at", top 51, []⟩
def d_blocks_at : FnA := ⟨fun K => ga K "blocks_at", "blocks_at", "blocks_at", top 52, []⟩
def d_body_of : FnA := ⟨fun K => ga K "body_of", "body_of", "body_of", top 53, []⟩
def d_written : FnA := ⟨fun K => ga K "written", "written", "written", top 54, []⟩
def d_read : FnA := ⟨fun K => ga K "read", "read", "read", top 55, []⟩
def d_written_single : FnA := ⟨fun K => ga K "written_single", "written_single", "written_single", top 56, []⟩
def d_handed_in : FnA := ⟨fun K => ga K "handed_in", "handed_in", "handed_in", top 57, []⟩
def d_read_single : FnA := ⟨fun K => ga K "read_single", "read_single", "read_single", top 58, []⟩
def d__law_word : FnA := ⟨fun K => ga K "_law_word", "_law_word", "_law_word", top 60, []⟩
def d__law_pair : FnA := ⟨fun K => ga K "_law_pair", "_law_pair", "_law_pair", top 61, []⟩
def d__law_texts_right : FnA := ⟨fun K => ga K "_law_texts_right", "_law_texts_right", "_law_texts_right", top 62, []⟩
def d__law_desk_right : FnA := ⟨fun K => ga K "_law_desk_right", "_law_desk_right", "_law_desk_right", top 63, []⟩
def d__law_full_right : FnA := ⟨fun K => ga K "_law_full_right", "_law_full_right", "_law_full_right", top 64, []⟩
def d_law : FnA := ⟨fun K => ga K "law", "law", "law", top 65, []⟩
def fnL : List FnA := ([d_BadProgram___init__, d_BadSingle___init__, d_BadText___init__, d_is_integer, d_is_row, d_is_end, d_targets_of, d_defined_by, d_used_by, d_are_reached, d_Blocks___init__, d_Blocks___getitem__, d_Blocks_rows, d_Blocks_end, d_Blocks_followers, d_Blocks_edges_into, d_is_plain_block, d_Program___init__, d_Program___eq__, d_Program_parts] : List FnA) ++ ([d_Program_with_blocks, d_check_program, d_is_single_block, d_definitions_of, d_are_joined, d_known_behind, d_at_end, d_are_strict, d_Single___init__, d_Single___eq__, d_Single_parts, d_check_single, d_Desk___init__, d_Desk_now, d_Desk_journal, d_Desk___len__, d_Desk_changed, d_Desk_put_row, d_Desk_take_row, d_Desk_turn_end] : List FnA) ++ ([d_Desk_undo, d_Desk_branch, d_Desk_trial, d_Desk_attempt, d_Trial___init__, d_Trial___enter__, d_Trial___exit__, d_lines_of, d_number_in, d_headed, d_row_in, d_end_in, d_join_in, d_block_at, d_blocks_at, d_body_of, d_written, d_read, d_written_single, d_handed_in] : List FnA) ++ ([d_read_single, d__law_word, d__law_pair, d__law_texts_right, d__law_desk_right, d__law_full_right, d_law] : List FnA)
def clsNm : Nat → Str
  | 2 => "RoomError"
  | 3 => "BadProgram"
  | 4 => "BadSingle"
  | 5 => "BadBlock"
  | 6 => "BadVariable"
  | 7 => "NothingDone"
  | 8 => "BadText"
  | 9 => "BadEdit"
  | 24 => "Blocks"
  | 26 => "Program"
  | 38 => "Single"
  | 41 => "Desk"
  | _ => "Trial"
abbrev kc (K : PySem.W.Frag) (n : Nat) : Addr := ga K (clsNm n)
abbrev lawT (K : PySem.W.Frag) (x : Str) : Addr × Addr := (cdAt K (ga K x), tabOf K (cdAt K (ga K x)))
def sclsB (K : PySem.W.Frag) (C : Addr) : Bool := PySem.W.plainGet K C Str.empty && (PySem.W.isClsIn K C && (PySem.W.plainOver K C && eqO (PySem.W.findIn K (.ref C) "__setattr__") (some (some (.builtin "object.__setattr__")))))
def slotB (K : PySem.W.Frag) (C : Addr) (f : Str) (i : Nat) : Bool := match PySem.W.findIn K (.ref C) f with
  | some (some (.ref p)) => eqO (PySem.W.specialIn K (.ref p) "__get__") (some (some (.builtin "member_descriptor.__get__"))) && (decide (PySem.W.takesIn K (.ref p) = some true) && (decide (PySem.W.typeIn K (.ref p) = some (.type "member_descriptor")) && (decide (PySem.W.slotIn K p C = some i) && decide (i < 1000))))
  | _ => false
/-- the slot f in the classes -/
def slotsB (K : PySem.W.Frag) (f : Str) (ix : Nat → Option Nat) : Bool := [24, 26, 38, 41, 42].all fun c => match ix c with
  | some j => sclsB K (kc K c) && slotB K (kc K c) f j
  | none => true
def sisiB (K : PySem.W.Frag) (C : Addr) : Bool := eqO (PySem.W.findIn K (.ref C) "__class__") (some (some (.builtin "object.__class__"))) && (eqO (PySem.W.specialIn K (.builtin "object.__class__") "__get__") (some (some (.builtin "getset_descriptor.__get__"))) && (decide (PySem.W.takesIn K (.builtin "object.__class__") = some true) && decide (PySem.W.mroIn K C (.type "object") = some true)))
def isCB (K : PySem.W.Frag) (d : Nat) : Bool := ([24, 26, 38, 41, 42].all fun c => sclsB K (kc K c) && (sisiB K (kc K c) && decide (PySem.W.kitOne K (.ref (kc K c)) (.ref (kc K d)) = some (Nat.beq d c)))) && ["NoneType", "bool", "int", "str", "list", "tuple", "dict"].all fun t => decide (PySem.W.kitOne K (.type t) (.ref (kc K d)) = some false)
def methB (K : PySem.W.Frag) (C : Addr) (m : Str) (a : Addr) : Bool := eqO (PySem.W.findIn K (.ref C) m) (some (some (.ref a))) && (PySem.W.isFn K (.ref a) && PySem.W.keepIn K (.ref a))
def mkB (K : PySem.W.Frag) (C a : Addr) : Bool := PySem.W.makesIn K C && (eqO (PySem.W.findIn K (.ref C) "__init__") (some (some (.ref a))) && (PySem.W.isFn K (.ref a) && PySem.W.keepIn K (.ref C)))
def propB (K : PySem.W.Frag) (C : Addr) (m : Str) (a : Addr) : Bool := match PySem.W.findIn K (.ref C) m with
  | some (some (.ref p)) => eqO (PySem.W.specialIn K (.ref p) "__get__") (some (some (.builtin "property.__get__"))) && (decide (PySem.W.takesIn K (.ref p) = some true) && (match PySem.W.recIn K p "property" with
    | some (.ref b :: _) => decide (b = a)
    | _ => false))
  | _ => false
def neB (K : PySem.W.Frag) (C : Addr) : Bool := eqO (PySem.W.findIn K (.ref C) "__ne__") (some (some (.builtin "object.__ne__"))) && decide (PySem.W.mroIn K C (.type "object") = some true)
def supCB (K : PySem.W.Frag) (C D : Addr) (m : Str) (g : Addr) : Bool := decide (PySem.W.mroIn K C (.ref D) = some true) && (eqO (PySem.W.nsIn K PySem.cStatics "thirdparty.any") (some none) && (eqO (PySem.W.ks_superIn K C D m) (some (some (.ref g))) && (decide (PySem.W.typeIn K (.ref g) = some (.type "function")) && PySem.W.fnIn K g)))
def supEB (K : PySem.W.Frag) (C D : Addr) : Bool := decide (PySem.W.mroIn K C (.ref D) = some true) && (eqO (PySem.W.nsIn K PySem.cStatics "thirdparty.any") (some none) && (eqO (PySem.W.ks_superIn K C D "__init__") (some (some (.builtin "ValueError.__init__"))) && decide (PySem.W.subIn K (.ref C) (.type "ValueError") = some true)))
def ex0B (K : PySem.W.Frag) (C : Addr) : Bool := PySem.W.excIn K C [.type "ValueError", .type "Exception", .type "BaseException", .type "object"] "ValueError.__new__" && (PySem.W.keepIn K (.ref C) && (decide (PySem.W.subIn K (.ref C) (.type "BaseException") = some true) && decide (PySem.W.typeIn K (.ref C) = some (.type "type"))))
def excCB (K : PySem.W.Frag) (D : Addr) : Bool := eqO (PySem.W.findIn K (.ref D) "__getattribute__") (some (some (.builtin "BaseException.__getattribute__"))) && (eqO (PySem.W.findIn K (.ref D) "__getattr__") (some none) && (decide (PySem.W.subIn K (.ref D) (.type "BaseException") = some true) && (PySem.W.hasDictIn K D && (eqO (PySem.W.findIn K (.ref D) "__class__") (some (some (.builtin "object.__class__"))) &&
  (eqO (PySem.W.specialIn K (.builtin "object.__class__") "__get__") (some (some (.builtin "getset_descriptor.__get__"))) && (decide (PySem.W.takesIn K (.builtin "object.__class__") = some true) && decide (PySem.W.mroIn K D (.type "object") = some true)))))))
def xfPB (K : PySem.W.Frag) (C : Addr) : Bool := xfB K C && eqO (PySem.W.findIn K (.ref C) "part") (some none)
def wordTB (K : PySem.W.Frag) : Bool :=
  ([3, 4, 5, 7, 8, 9].all fun c => decide (PySem.W.exmOne K (.ref (kc K c)) (.ref (kc K 3)) = some (Nat.beq c 3))) && (([4, 5, 7, 8, 9].all fun c => decide (PySem.W.exmOne K (.ref (kc K c)) (.ref (kc K 4)) = some (Nat.beq c 4))) &&
  (([5, 7, 8, 9].all fun c => decide (PySem.W.exmOne K (.ref (kc K c)) (.ref (kc K 2)) = some true)) && (([3, 4].all fun c => xfPB K (kc K c)) && (([5, 7, 8, 9].all fun c => excCB K (kc K c)) &&
  (([5, 7, 8, 9].all fun c => [5, 9, 7, 8].all fun j => decide (PySem.W.kitOne K (.ref (kc K c)) (.ref (kc K j)) = some (Nat.beq c j))) && ([5, 7, 8, 9].all fun c => decide (PySem.W.kitOne K (.ref (kc K c)) (.type "ValueError") = some true)))))))
def oexObjB (K : PySem.W.Frag) (C : Addr) : Bool := match K.lookup C with
  | some ⟨.type "type", _, .cls cd, sl⟩ => (match cd.mro, sl.toList with
    | .ref C' :: bm, [_, _, _, _, some (.builtin n), _] => C' == C && (n == "ValueError.__new__" && (!cd.hasDel && (cd.hasDict && PySem.HandSPX.refsVE bm)))
    | _, _ => false)
  | _ => false
def oexB (K : PySem.W.Frag) (C : Addr) : Bool := oexObjB K C && (eqO (PySem.W.findIn K (.ref C) "__setattr__") (some (some (.builtin "object.__setattr__"))) && (decide (PySem.W.subIn K (.ref C) (.type "BaseException") = some true) && (decide (PySem.W.typeIn K (.ref C) = some (.type "type")) && PySem.W.keepIn K (.ref C))))
def fileB (K : PySem.W.Frag) (c : Addr) (file : Str) : Bool := match K.lookup c with
  | some ⟨_, _, .fields vs, _⟩ => (match (vs[2]? : Option Value) with
    | some (Value.str x _) => file == x
    | _ => false)
  | _ => false
def clsSB (K : PySem.W.Frag) (D : Addr) : Bool := (PySem.W.clsIn K D).isSome
def nsB (K : PySem.W.Frag) (p : Addr) (tab : List (List Nat × Int)) (mis : List (List Nat)) : Bool := (tab.all fun q => match PySem.W.nsIn K p (sOf q.1) with
  | some (some u) => relB (.int q.2) u
  | _ => false) && mis.all fun z => eqO (PySem.W.nsIn K p (sOf z)) (some none)
abbrev PR : Program := (PySem.Challenge.rw_registerrooms_k25_whole_refused_more).prog
def gloL : List Str := (["RoomError", "BadProgram", "BadSingle", "BadBlock", "NothingDone", "BadText", "BadEdit", "is_integer", "is_row", "is_end", "targets_of", "defined_by", "used_by", "are_reached", "Blocks", "is_plain_block", "Program", "check_program", "is_single_block", "definitions_of"] : List Str) ++
  (["are_joined", "known_behind", "at_end", "are_strict", "Single", "check_single", "Desk", "Trial", "lines_of", "number_in", "headed", "row_in", "end_in", "join_in", "block_at", "blocks_at", "body_of", "written", "read", "written_single"] : List Str) ++ (["handed_in", "read_single", "_law_word", "_law_pair", "_law_texts_right", "_law_desk_right", "_law_full_right", "law", "SIZES", "ENDS"] : List Str)
def freeL : List Str := ["isinstance", "int", "bool", "str", "tuple", "list", "dict", "len", "all", "any", "min", "range", "enumerate", "zip", "super", "ValueError"]
def intL : List (Str × Int) := [("MOST_VARIABLES", 8), ("MOST_BLOCKS", 16), ("MOST_ROWS", 12), ("MOST_SPAN", 8), ("MOST_HANDED", 3), ("MOST_SINGLE", 48), ("MOST_SINGLE_ROWS", 24)]
def slotL : List (Str × (Nat → Option Nat)) := [("blocks", ixBlocks), ("handed", ixHanded), ("many", ixMany), ("span", ixSpan), ("past", ixPast), ("notes", ixNotes), ("floor", ixFloor), ("desk", ixDesk)]
def methsB (K : PySem.W.Frag) (m : Str) (cs : List Nat) (d : FnA) : Bool := cs.all fun c => sclsB K (kc K c) && methB K (kc K c) m (d.at_ K)
def ownsB (K : PySem.W.Frag) (m : Str) (cs : List Nat) (d : FnA) : Bool := cs.all fun c => eqO (PySem.W.findIn K (.ref (kc K c)) m) (some (some (.ref (d.at_ K))))
def propsB (K : PySem.W.Frag) (m : Str) (cs : List Nat) (d : FnA) : Bool := cs.all fun c => sclsB K (kc K c) && propB K (kc K c) m (d.at_ K)
def supsB (K : PySem.W.Frag) (D : Addr) (m : Str) (cs : List Nat) (d : FnA) : Bool := cs.all fun c => supCB K (kc K c) D m (d.at_ K)
def methL : List (Str × List Nat × FnA) := [("rows", [24, 26, 38], d_Blocks_rows), ("end", [24, 26, 38], d_Blocks_end), ("followers", [24, 26, 38], d_Blocks_followers), ("edges_into", [24, 26, 38], d_Blocks_edges_into), ("parts", [26], d_Program_parts), ("with_blocks", [26], d_Program_with_blocks), ("parts", [38], d_Single_parts),
  ("changed", [41], d_Desk_changed), ("put_row", [41], d_Desk_put_row), ("take_row", [41], d_Desk_take_row), ("turn_end", [41], d_Desk_turn_end), ("undo", [41], d_Desk_undo), ("branch", [41], d_Desk_branch), ("trial", [41], d_Desk_trial), ("attempt", [41], d_Desk_attempt), ("__enter__", [42], d_Trial___enter__), ("__exit__", [42], d_Trial___exit__)]
def ownL : List (Str × List Nat × FnA) := [("__getitem__", [24, 26, 38], d_Blocks___getitem__), ("__eq__", [26], d_Program___eq__), ("__eq__", [38], d_Single___eq__), ("__len__", [41], d_Desk___len__)]
def propL : List (Str × List Nat × FnA) := [("now", [41], d_Desk_now), ("journal", [41], d_Desk_journal)]
def mkL : List (Nat × FnA) := [(24, d_Blocks___init__), (26, d_Program___init__), (38, d_Single___init__), (41, d_Desk___init__), (42, d_Trial___init__)]
/-- a def that says super in the class D -/
def supDB (K : PySem.W.Frag) (P : Program) (D : Addr) (d : FnA) (kws : List (Str × V)) : Bool := cellB K (ccAt K (d.at_ K)) D && (kwdB K (kwAt K (d.at_ K)) kws && (fileB K (cdAt K (d.at_ K)) P.main.file && clsSB K D))
/-- an exception's class with an __init__ -/
def excIB (K : PySem.W.Frag) (P : Program) (c : Nat) (d : FnA) (fl : List Nat) : Bool := oexB K (kc K c) && (supEB K (kc K c) (kc K c) && (eqO (PySem.W.findIn K (.ref (kc K c)) (sOf fl)) (some none) && (eqO (PySem.W.findIn K (.ref (kc K c)) "__init__") (some (some (.ref (d.at_ K)))) &&
  (decide (PySem.W.typeIn K (.ref (d.at_ K)) = some (.type "function")) && supDB K P (kc K c) d []))))
def x1 (K : PySem.W.Frag) : Bool := gloL.all fun x => (Fa.glo x).ok K
def x2 (K : PySem.W.Frag) : Bool := freeL.all fun x => (Fa.free x).ok K
def x3 (K : PySem.W.Frag) : Bool := intL.all fun p => (Fa.int p.1 p.2).ok K
def x4 (K : PySem.W.Frag) : Bool := slotL.all fun p => slotsB K p.1 p.2
def x5 (K : PySem.W.Frag) : Bool := isCB K 26 && isCB K 38
def x6 (K : PySem.W.Frag) : Bool := [5, 7, 9].all fun c => ex0B K (kc K c)
def x7 (P : Program) (K : PySem.W.Frag) : Bool := excIB K P 3 d_BadProgram___init__ (tx "part") && (excIB K P 4 d_BadSingle___init__ (tx "part") && excIB K P 8 d_BadText___init__ (tx "row"))
def x8 (K : PySem.W.Frag) : Bool := wordTB K && neB K (kc K 26)
def x9 (K : PySem.W.Frag) : Bool := methL.all fun p => methsB K p.1 p.2.1 p.2.2
def x10 (K : PySem.W.Frag) : Bool := ownL.all fun p => ownsB K p.1 p.2.1 p.2.2
def x11 (K : PySem.W.Frag) : Bool := propL.all fun p => propsB K p.1 p.2.1 p.2.2
def x12 (K : PySem.W.Frag) : Bool := mkL.all fun p => mkB K (kc K p.1) (p.2.at_ K)
def x13 (P : Program) (K : PySem.W.Frag) : Bool := supDB K P (kc K 26) d_Program___init__ [("handed", .int 0), ("span", .int 4)] && (supDB K P (kc K 38) d_Single___init__ [("span", .int 4)] && (supsB K (kc K 26) "__init__" [26] d_Blocks___init__ && supsB K (kc K 38) "__init__" [38] d_Blocks___init__))
def x14 (K : PySem.W.Frag) : Bool := nsB K (ga K "SIZES") tabSizes misS && nsB K (ga K "ENDS") tabEnds misE
def noListB (K : PySem.W.Frag) : Bool := K.all fun p => !decide (p.2.cls = .type "list")
def x15 (K : PySem.W.Frag) : Bool := noListB K && (decide ((lawT K "_law_texts_right").2 ≠ (lawT K "_law_desk_right").2) && (decide ((lawT K "_law_full_right").2 ≠ (lawT K "_law_texts_right").2) && decide ((lawT K "_law_full_right").2 ≠ (lawT K "_law_desk_right").2)))
def exB (P : Program) (K : PySem.W.Frag) : Bool := (x1 K && (x2 K && (x3 K && (x4 K && x5 K)))) && ((x6 K && (x7 P K && (x8 K && (x9 K && x10 K)))) && (x11 K && (x12 K && (x13 P K && (x14 K && x15 K)))))
/-- the tables, the defs with lambdas -/
def keysS : List Str := tabSizes.map fun p => sOf p.1
def keysE : List Str := tabEnds.map fun p => sOf p.1
def tsL : List Tab := [(fun K => ga K "SIZES", keysS), (fun K => ga K "ENDS", keysE)]
def tfL : List (PySem.W.Frag → Addr × Addr) := [fun K => lawT K "_law_texts_right", fun K => lawT K "_law_desk_right", fun K => lawT K "_law_full_right"]
end MR
set_option maxHeartbeats 0
/-! Mirror 60: the head, run by the kernel. -/
namespace MR
open PySem PySem.Spec PyProof.Rows L2
def loose : List PySem.Str := (["_wall", "RoomError", "BadProgram", "BadSingle", "BadBlock", "BadVariable", "NothingDone", "BadText", "BadEdit", "MOST_VARIABLES", "MOST_BLOCKS", "MOST_ROWS", "MOST_SPAN", "MOST_HANDED", "SIZES", "is_integer", "is_row", "is_end", "targets_of"] : List PySem.Str) ++ (["defined_by", "used_by", "are_reached", "Blocks", "is_plain_block", "Program", "check_program", "MOST_SINGLE", "MOST_SINGLE_ROWS", "is_join", "is_single_block", "definitions_of", "are_joined", "known_behind", "at_end", "are_strict", "Single", "check_single", "Desk", "Trial"] : List PySem.Str) ++ (["ENDS", "lines_of", "number_in", "headed", "row_in", "end_in", "join_in", "block_at", "blocks_at", "body_of", "written", "read", "written_single", "handed_in", "read_single", "_law_word", "_law_pair", "_law_texts_right", "_law_desk_right", "_law_full_right"] : List PySem.Str)
abbrev RW0 : PySem.W.OpenRow := PySem.W.OpenLaw.row PySem.Challenge.rw_registerrooms_k25_whole_refused_more
abbrev hk : PySem.W.Hook := hookZ 4 fnL tsL tfL (exB PR)
def ob (s : PySem.W.SharedT) : AlZ := obsZ 4 fnL tsL tfL (exB PR) (HandSHeadRun.getT s)
theorem ob_eq (s : PySem.W.SharedT) : ob s = hk.obs s.abs := obsZ_eq (HandSHeadRun.getT_eq s)
theorem run_f (w : World) : HandSHeadRun.RunEq RW0 (PySem.W.view RW0.prog [65]) hk ob 7000 loose (w.withFollow "special-get-raises" false) := by
  intro os
  kernel_rfl
theorem run_t (w : World) : HandSHeadRun.RunEq RW0 (PySem.W.view RW0.prog [65]) hk ob 7000 loose (w.withFollow "special-get-raises" true) := by
  intro os
  kernel_rfl
theorem run_any (w : World) : HandSHeadRun.RunEq RW0 (PySem.W.view RW0.prog [65]) hk ob 7000 loose w :=
  PySem.W.byRow2 "special-get-raises" (P := fun w => HandSHeadRun.RunEq RW0 (PySem.W.view RW0.prog [65]) hk ob 7000 loose w) run_f run_t w
end MR
set_option maxHeartbeats 4000000
/-! Mirror 1: values, objects and a heap with numbers in place of addresses; what it means that a true heap is one of them. -/
namespace MR
open PySem PySem.Spec PyProof.Rows L2

inductive LV where
  | non | bl (b : Bool) | int (i : Int) | str (x : List Nat) | ref (n : Nat)
inductive LK where
  | i (n : Int) | s (x : List Nat)
inductive LO where
  | lst (xs : List LV) | tup (xs : List LV) | dic (kvs : List (LK × LV)) | frz (kvs : List (LK × LV)) | opq | scr | ins (c : Nat) (sl : List (Option LV)) | xd (f : List Nat) (v : LV)
/-- a tree by numbers -/
inductive Tr where
  | nil
  | nd (v : Option LO) (l r : Tr)
namespace Tr
def get : Tr → Nat → Option LO
  | .nil, _ => none
  | .nd v l r, i => match Nat.beq i 0 with
    | true => v
    | false => match Nat.beq (i % 2) 1 with
      | true => l.get (i / 2)
      | false => r.get (i / 2 - 1)
def put : Nat → Tr → Nat → LO → Tr
  | 0, t, _, _ => t
  | n + 1, .nil, i, o => match Nat.beq i 0 with
    | true => .nd (some o) .nil .nil
    | false => match Nat.beq (i % 2) 1 with
      | true => .nd none (put n .nil (i / 2) o) .nil
      | false => .nd none .nil (put n .nil (i / 2 - 1) o)
  | n + 1, .nd v l r, i, o => match Nat.beq i 0 with
    | true => .nd (some o) l r
    | false => match Nat.beq (i % 2) 1 with
      | true => .nd v (put n l (i / 2) o) r
      | false => .nd v l (put n r (i / 2 - 1) o)
theorem beq_eq (a b : Nat) : Nat.beq a b = decide (a = b) := by
  by_cases h : a = b
  · subst h; simp
  · rw [decide_eq_false h]
    cases q : Nat.beq a b with
    | false => rfl
    | true => exact absurd (Nat.eq_of_beq_eq_true q) h
theorem get_nd (v : Option LO) (l r : Tr) (i : Nat) : (nd v l r).get i = if i = 0 then v else if i % 2 = 1 then l.get (i / 2) else r.get (i / 2 - 1) := by
  show (match Nat.beq i 0 with | true => v | false => match Nat.beq (i % 2) 1 with | true => l.get (i / 2) | false => r.get (i / 2 - 1)) = _
  rw [beq_eq, beq_eq]
  by_cases h : i = 0
  · simp [h]
  · by_cases q : i % 2 = 1 <;> simp [h, q]
theorem get_nil (i : Nat) : Tr.nil.get i = none := rfl
theorem get_put : ∀ (n : Nat) (t : Tr) (i : Nat) (o : LO) (j : Nat), i + 1 < 2 ^ n → (put n t i o).get j = if j = i then some o else t.get j
  | 0, t, i, o, j, h => by simp at h
  | n + 1, t, i, o, j, h => by
    have h2 : 2 ^ (n + 1) = 2 * 2 ^ n := by rw [Nat.pow_succ, Nat.mul_comm]
    have key : ∀ (v : Option LO) (l r : Tr), (put (n + 1) (.nd v l r) i o).get j = if j = i then some o else (Tr.nd v l r).get j := by
      intro v l r
      show (match Nat.beq i 0 with | true => Tr.nd (some o) l r | false => match Nat.beq (i % 2) 1 with | true => .nd v (put n l (i / 2) o) r | false => .nd v l (put n r (i / 2 - 1) o)).get j = _
      rw [beq_eq, beq_eq]
      by_cases h0 : i = 0
      · subst h0
        simp only [decide_true]
        rw [get_nd, get_nd]
        by_cases hj : j = 0 <;> simp [hj]
      · rw [decide_eq_false h0]
        by_cases p : i % 2 = 1
        · rw [decide_eq_true p]
          show (Tr.nd v (put n l (i / 2) o) r).get j = _
          rw [get_nd, get_nd, get_put n l (i / 2) o (j / 2) (by omega)]
          by_cases hj : j = 0
          · have : ¬ 0 = i := fun e => h0 e.symm
            simp [hj, this]
          · rw [if_neg hj, if_neg hj]
            by_cases pj : j % 2 = 1
            · rw [if_pos pj, if_pos pj]
              by_cases e : j = i
              · rw [if_pos e, if_pos (by omega)]
              · rw [if_neg e, if_neg (by omega)]
            · rw [if_neg pj, if_neg pj, if_neg (by omega)]
        · rw [decide_eq_false p]
          show (Tr.nd v l (put n r (i / 2 - 1) o)).get j = _
          rw [get_nd, get_nd, get_put n r (i / 2 - 1) o (j / 2 - 1) (by omega)]
          by_cases hj : j = 0
          · have : ¬ 0 = i := fun e => h0 e.symm
            simp [hj, this]
          · rw [if_neg hj, if_neg hj]
            by_cases pj : j % 2 = 1
            · rw [if_pos pj, if_pos pj, if_neg (by omega)]
            · rw [if_neg pj, if_neg pj]
              by_cases e : j = i
              · rw [if_pos e, if_pos (by omega)]
              · rw [if_neg e, if_neg (by omega)]
    cases t with
    | nd v l r => exact key v l r
    | nil =>
      have e : put (n + 1) .nil i o = put (n + 1) (.nd none .nil .nil) i o := by
        show (match Nat.beq i 0 with | true => Tr.nd (some o) .nil .nil | false => match Nat.beq (i % 2) 1 with | true => .nd none (put n .nil (i / 2) o) .nil | false => .nd none .nil (put n .nil (i / 2 - 1) o)) = _
        rfl
      rw [e, key]
      have z : (Tr.nd none .nil .nil).get j = none := by rw [get_nd]; simp [get_nil]
      rw [z, get_nil]
end Tr

structure LH where
  n : Nat
  t : Tr
def frN {α : Type} (n : Nat) (k : Nat → α) : α := match n with
  | 0 => k 0
  | m + 1 => k (m + 1)
theorem frN_eq {α : Type} (n : Nat) (k : Nat → α) : frN n k = k n := by cases n <;> rfl
/-- what comes of a piece: a value and the heap, an exception (its class, the number of its own dict), or nothing that is spoken of -/
inductive Out (α : Type) where
  | ok (a : α) (h : LH)
  | ex (c : Nat) (d : Option Nat) (h : LH)
  | no
def Out.bind {α β : Type} (x : Out α) (k : α → LH → Out β) : Out β := match x with
  | .ok a h => k a h
  | .ex c d h => .ex c d h
  | .no => .no
def LH.set (h : LH) (i : Nat) (o : LO) : LH := ⟨h.n, h.t.put 20 i o⟩
def LH.new {α : Type} (h : LH) (o : LO) (k : Nat → LH → Out α) : Out α := frN h.n fun n => match Nat.blt n 1000000 with
  | true => k n ⟨n + 1, h.t.put 20 n o⟩
  | false => .no

/-! ### the relation -/
/-- the written part's own: classes by number, exceptions' classes by number, the tables of code objects -/
structure Cst where
  cls : Nat → Addr
  exc : Nat → Addr
  tabs : List (Addr × Str)
  frz : List (Addr × HO)
  nst : Addr × Str
/-- the object at c is a code object of the name q, its own table at P -/
def CodeT (c P : Addr) (q : Str) : HO := .ext fun h => (∃ (oc : Obj) (vs : Array Value) (t : Tok), h.get? c = some oc ∧ oc.data = .fields vs ∧ vs[1]? = some (.str q t)) ∧ PySem.W.CodeHd h c P
/-- the table at P: each code object that it tells bears the name q -/
def TabS1 (H : Hp) (P : Addr) (q : Str) : Prop := ∃ ps : Array Value, H P = some (.tbl ps) ∧ TriplesOk ps.toList ∧ ∀ (pos : Pos) (cv : Value), codeAmong pos ps.toList = some cv → ∃ c P' oc, cv = .ref c ∧ H c = some (.frz oc (CodeT c P' q))
def inq (q : Str) : Str := q ++ ".<locals>." ++ "<lambda>"
/-- the own table of a code object that the table C.nst tells -/
def NestOk (C : Cst) (H : Hp) (P : Addr) : Prop := P ≠ C.nst.1 ∧ P ∉ C.tabs.map (·.1) ∧ TabS1 H P (inq C.nst.2)
def TabN (C : Cst) (H : Hp) : Prop := C.nst.1 ∉ C.tabs.map (·.1) ∧ ∃ ps : Array Value, H C.nst.1 = some (.tbl ps) ∧ TriplesOk ps.toList ∧ ∀ (pos : Pos) (cv : Value), codeAmong pos ps.toList = some cv → ∃ c P' oc, cv = .ref c ∧ H c = some (.frz oc (CodeT c P' C.nst.2)) ∧ NestOk C H P'
def TabsR (C : Cst) (H : Hp) : Prop := (∀ p ∈ C.tabs, TabS1 H p.1 p.2) ∧ TabN C H
/-- what the tables lean on -/
def TabU (u : HO) : Prop := (∃ ps, u = .tbl ps) ∨ ∃ oc c P q, u = .frz oc (CodeT c P q)
theorem TabS1.keep {H H' : Hp} {P : Addr} {q : Str} (t : TabS1 H P q) (k : ∀ b u, H b = some u → TabU u → H' b = some u) : TabS1 H' P q := by
  obtain ⟨ps, h1, h2, h3⟩ := t
  refine ⟨ps, k _ _ h1 (.inl ⟨_, rfl⟩), h2, fun pos cv hc => ?_⟩
  obtain ⟨c, P', oc, e1, e2⟩ := h3 pos cv hc
  exact ⟨c, P', oc, e1, k _ _ e2 (.inr ⟨_, _, _, _, rfl⟩)⟩
theorem NestOk.keep {C : Cst} {H H' : Hp} {P : Addr} (t : NestOk C H P) (k : ∀ b u, H b = some u → TabU u → H' b = some u) : NestOk C H' P := ⟨t.1, t.2.1, t.2.2.keep k⟩
theorem TabsR.keep {C : Cst} {H H' : Hp} (t : TabsR C H) (k : ∀ b u, H b = some u → TabU u → H' b = some u) : TabsR C H' := by
  obtain ⟨h0, hn, ps, h1, h2, h3⟩ := t
  refine ⟨fun p hp => (h0 p hp).keep k, hn, ps, k _ _ h1 (.inl ⟨_, rfl⟩), h2, fun pos cv hc => ?_⟩
  obtain ⟨c, P', oc, e1, e2, e3⟩ := h3 pos cv hc
  exact ⟨c, P', oc, e1, k _ _ e2 (.inr ⟨_, _, _, _, rfl⟩), e3.keep k⟩
inductive RV (ρ : List Addr) : LV → V → Prop
  | non : RV ρ .non .non
  | bl (b : Bool) : RV ρ (.bl b) (.bl b)
  | int (i : Int) : RV ρ (.int i) (.int i)
  | str (x : List Nat) : RV ρ (.str x) (.str ⟨⟨x⟩⟩)
  | ref {i : Nat} {a : Addr} (h : ρ[i]? = some a) : RV ρ (.ref i) (.ref a)
inductive RK : LK → Key → Prop
  | i (n : Int) : RK (.i n) (.inl n)
  | s (x : List Nat) : RK (.s x) (.inr ⟨⟨x⟩⟩)
abbrev RVs (ρ : List Addr) : List LV → List V → Prop := Paired (RV ρ)
abbrev RKVs (ρ : List Addr) : List (LK × LV) → List (Key × V) → Prop := Paired fun p q => RK p.1 q.1 ∧ RV ρ p.2 q.2
/-- the slots -/
def RSl (ρ : List Addr) (sl : List (Option LV)) (vs : List (Option V)) : Prop := sl.length = vs.length ∧ ∀ (i : Nat) (v : LV), sl[i]? = some (some v) → ∃ u, vs[i]? = some (some u) ∧ RV ρ v u
def pre (ρ ρ' : List Addr) : Prop := ∀ (i : Nat) (a : Addr), ρ[i]? = some a → ρ'[i]? = some a
theorem pre.refl (ρ : List Addr) : pre ρ ρ := fun _ _ h => h
theorem pre.trans {a b c : List Addr} (h : pre a b) (k : pre b c) : pre a c := fun i x e => k i x (h i x e)
theorem pre.app (ρ : List Addr) (p : Addr) : pre ρ (ρ ++ [p]) := fun i a h => by
  obtain ⟨hl, _⟩ := List.getElem?_eq_some_iff.mp h
  rw [List.getElem?_append_left hl]; exact h
theorem RV.mono {ρ ρ' : List Addr} (p : pre ρ ρ') {v : LV} {u : V} (r : RV ρ v u) : RV ρ' v u := by
  cases r with
  | non => exact .non
  | bl b => exact .bl b
  | int i => exact .int i
  | str x => exact .str x
  | ref h => exact .ref (p _ _ h)
theorem RVs.mono {ρ ρ' : List Addr} (p : pre ρ ρ') {v : List LV} {u : List V} (r : RVs ρ v u) : RVs ρ' v u := Paired.mapP r fun _ _ x => x.mono p
theorem RKVs.mono {ρ ρ' : List Addr} (p : pre ρ ρ') {v : List (LK × LV)} {u : List (Key × V)} (r : RKVs ρ v u) : RKVs ρ' v u := Paired.mapP r fun _ _ x => ⟨x.1, x.2.mono p⟩
theorem RSl.mono {ρ ρ' : List Addr} (p : pre ρ ρ') {v : List (Option LV)} {u : List (Option V)} (r : RSl ρ v u) : RSl ρ' v u := ⟨r.1, fun i v h => let ⟨u, a, b⟩ := r.2 i v h; ⟨u, a, b.mono p⟩⟩

def RO (C : Cst) (ρ : List Addr) (H : Hp) (a : Addr) : LO → Prop
  | .lst xs => ∃ vs, RVs ρ xs vs ∧ H a = some (.lst vs)
  | .tup xs => ∃ vs, RVs ρ xs vs ∧ H a = some (.tup vs)
  | .dic kvs => ∃ vs, RKVs ρ kvs vs ∧ H a = some (.dK vs)
  | .frz kvs => ∃ vs o, RKVs ρ kvs vs ∧ H a = some (.frz o (.dK vs)) ∧ (a, HO.frz o (.dK vs)) ∈ C.frz
  | .opq => H a = some (.ext fun _ => True)
  | .scr => ∃ xs, Rd H a (.lst xs)
  | .ins c sl => ∃ dx vs, RSl ρ sl vs ∧ ((H a = some (.ins (C.cls c) dx []) ∧ vs = [] ∧ H dx = some (.own a)) ∨ (H a = some (SlX.SlO a (C.cls c) dx vs) ∧ H dx = some (.xd [])))
  | .xd f v => ∃ u, RV ρ v u ∧ H a = some (.xd [(⟨⟨f⟩⟩, u)])
/-- what stands where an object is told: no table, no dict of an instance -/
def Still (u : HO) : Prop := (∀ ps, u ≠ .tbl ps) ∧ (∀ x, u ≠ .own x) ∧ u ≠ .xd [] ∧ ∀ oc c P q, u ≠ .frz oc (CodeT c P q)
theorem Still.tab {u : HO} (s : Still u) : ¬ TabU u := fun z => by
  rcases z with ⟨ps, e⟩ | ⟨oc, c, P, q, e⟩
  · exact s.1 ps e
  · exact s.2.2.2 oc c P q e
def Thing (u : HO) : Prop := Still u ∧ ∀ o w, u ≠ .frz o w
structure Rel (C : Cst) (ρ : List Addr) (h : LH) (H : Hp) : Prop where
  nd : ρ.Nodup
  len : ρ.length = h.n
  dom : ∀ i, i < h.n → (h.t.get i).isSome = true
  at_ : ∀ i o, h.t.get i = some o → ∃ a, ρ[i]? = some a ∧ RO C ρ H a o
  tabs : TabsR C H
  frz : ∀ p, p ∈ C.frz → H p.1 = some p.2 ∧ ∃ o kvs, p.2 = .frz o (.dK kvs)

theorem slO_is {a C dx : Addr} {vs : List (Option V)} : ∃ φ, SlX.SlO a C dx vs = HO.ext φ := ⟨_, rfl⟩
theorem slO_code {a C dx c P : Addr} {oc : Obj} {q : Str} {vs : List (Option V)} : SlX.SlO a C dx vs ≠ .frz oc (CodeT c P q) := fun z => by
  unfold SlX.SlO at z
  cases z
theorem thing_lst {xs : List V} : Thing (.lst xs) := ⟨⟨fun _ z => (nomatch z), fun _ z => (nomatch z), fun z => (nomatch z), fun _ _ _ _ z => (nomatch z)⟩, fun _ _ z => (nomatch z)⟩
theorem thing_tup {xs : List V} : Thing (.tup xs) := ⟨⟨fun _ z => (nomatch z), fun _ z => (nomatch z), fun z => (nomatch z), fun _ _ _ _ z => (nomatch z)⟩, fun _ _ z => (nomatch z)⟩
theorem thing_dK {xs : List (Key × V)} : Thing (.dK xs) := ⟨⟨fun _ z => (nomatch z), fun _ z => (nomatch z), fun z => (nomatch z), fun _ _ _ _ z => (nomatch z)⟩, fun _ _ z => (nomatch z)⟩
theorem thing_ins {C dx : Addr} {xs : List (Str × V)} : Thing (.ins C dx xs) := ⟨⟨fun _ z => (nomatch z), fun _ z => (nomatch z), fun z => (nomatch z), fun _ _ _ _ z => (nomatch z)⟩, fun _ _ z => (nomatch z)⟩
theorem thing_slO {a C dx : Addr} {vs : List (Option V)} : Thing (SlX.SlO a C dx vs) := ⟨⟨fun ps z => (by unfold SlX.SlO at z; cases z), fun x z => (by unfold SlX.SlO at z; cases z), fun z => (by unfold SlX.SlO at z; cases z), fun oc c P q => slO_code⟩, fun o w z => (by unfold SlX.SlO at z; cases z)⟩
theorem thing_xd {p : Str × V} : Thing (.xd [p]) := ⟨⟨fun _ z => (nomatch z), fun _ z => (nomatch z), fun z => (by injection z with z; cases z), fun _ _ _ _ z => (nomatch z)⟩, fun _ _ z => (nomatch z)⟩
theorem still_opq : Still (.ext fun _ => True) := ⟨fun _ z => (nomatch z), fun _ z => (nomatch z), fun z => (nomatch z), fun _ _ _ _ z => (nomatch z)⟩
theorem still_scr {o : Obj} {xs : List V} : Still (.frz o (.lst xs)) := ⟨fun _ z => (nomatch z), fun _ z => (nomatch z), fun z => (nomatch z), fun oc c P q z => (by unfold CodeT at z; injection z with _ z; cases z)⟩
theorem still_frz {o : Obj} {kvs : List (Key × V)} : Still (.frz o (.dK kvs)) := ⟨fun _ z => (nomatch z), fun _ z => (nomatch z), fun z => (nomatch z), fun oc c P q z => (by unfold CodeT at z; injection z with _ z; cases z)⟩
section
variable {C : Cst} {ρ ρ' : List Addr} {h h' : LH} {H H' : Hp} {a b p : Addr} {o : LO} {u : HO}
/-- something stands there -/
theorem RO.thing (r : RO C ρ H a o) : ∃ u, H a = some u ∧ Still u := by
  cases o with
  | lst xs => obtain ⟨vs, _, e⟩ := r; exact ⟨_, e, thing_lst.1⟩
  | tup xs => obtain ⟨vs, _, e⟩ := r; exact ⟨_, e, thing_tup.1⟩
  | dic xs => obtain ⟨vs, _, e⟩ := r; exact ⟨_, e, thing_dK.1⟩
  | frz xs => obtain ⟨vs, o, _, e, _⟩ := r; exact ⟨_, e, still_frz⟩
  | opq => exact ⟨_, r, still_opq⟩
  | scr =>
    obtain ⟨xs, e | ⟨o, e⟩⟩ := r
    · exact ⟨_, e, thing_lst.1⟩
    · exact ⟨_, e, still_scr⟩
  | ins c sl =>
    obtain ⟨dx, vs, _, e | e⟩ := r
    · exact ⟨_, e.1, thing_ins.1⟩
    · exact ⟨_, e.1, thing_slO.1⟩
  | xd f v => obtain ⟨u, _, e⟩ := r; exact ⟨_, e, thing_xd.1⟩
/-- a description leans on its own object and, for an instance, on its dict -/
theorem RO.keep (r : RO C ρ H a o) (p : pre ρ ρ') (k : H' a = H a) (kd : ∀ d u, H d = some u → u = .own a ∨ u = .xd [] → H' d = some u) : RO C ρ' H' a o := by
  cases o with
  | lst xs => obtain ⟨vs, z, e⟩ := r; exact ⟨vs, z.mono p, k.trans e⟩
  | tup xs => obtain ⟨vs, z, e⟩ := r; exact ⟨vs, z.mono p, k.trans e⟩
  | dic xs => obtain ⟨vs, z, e⟩ := r; exact ⟨vs, z.mono p, k.trans e⟩
  | frz xs => obtain ⟨vs, o, z, e, m⟩ := r; exact ⟨vs, o, z.mono p, k.trans e, m⟩
  | opq => exact k.trans r
  | scr =>
    obtain ⟨xs, e | ⟨o, e⟩⟩ := r
    · exact ⟨xs, .inl (k.trans e)⟩
    · exact ⟨xs, .inr ⟨o, k.trans e⟩⟩
  | ins c sl =>
    obtain ⟨dx, vs, z, ⟨e1, e2, e3⟩ | ⟨e1, e2⟩⟩ := r
    · exact ⟨dx, vs, z.mono p, .inl ⟨k.trans e1, e2, kd _ _ e3 (.inl rfl)⟩⟩
    · exact ⟨dx, vs, z.mono p, .inr ⟨k.trans e1, kd _ _ e2 (.inr rfl)⟩⟩
  | xd f v => obtain ⟨u, z, e⟩ := r; exact ⟨u, z.mono p, k.trans e⟩
theorem Rel.lt (R : Rel C ρ h H) {i : Nat} (e : ρ[i]? = some a) : i < h.n := by
  obtain ⟨hl, _⟩ := List.getElem?_eq_some_iff.mp e
  rw [← R.len]; exact hl
theorem Rel.obj (R : Rel C ρ h H) {i : Nat} (e : ρ[i]? = some a) : ∃ o, h.t.get i = some o ∧ RO C ρ H a o := by
  obtain ⟨o, ho⟩ := Option.isSome_iff_exists.mp (R.dom i (R.lt e))
  obtain ⟨b, e', r⟩ := R.at_ i o ho
  rw [e] at e'; cases e'
  exact ⟨o, ho, r⟩
theorem Rel.ref (R : Rel C ρ h H) {i : Nat} (e : ρ[i]? = some a) (ho : h.t.get i = some o) : RO C ρ H a o := by
  obtain ⟨o', ho', r⟩ := R.obj e
  rw [ho] at ho'; cases ho'; exact r
theorem Rel.mem (R : Rel C ρ h H) (m : a ∈ ρ) : ∃ u, H a = some u ∧ Still u := by
  obtain ⟨i, e⟩ := List.mem_iff_getElem?.mp m
  obtain ⟨o, _, r⟩ := R.obj e
  exact r.thing
theorem Rel.fresh (R : Rel C ρ h H) (n : H p = none) : p ∉ ρ := fun m => by
  obtain ⟨u, e, _⟩ := R.mem m
  rw [n] at e; cases e
/-- what else changes: nothing that is told -/
theorem Rel.ext (R : Rel C ρ h H) (k : ∀ b u, H b = some u → H' b = some u) : Rel C ρ h H' :=
  ⟨R.nd, R.len, R.dom, fun i o e => by
    obtain ⟨a, ea, r⟩ := R.at_ i o e
    obtain ⟨u, hu, _⟩ := r.thing
    exact ⟨a, ea, r.keep (pre.refl _) ((k _ _ hu).trans hu.symm) fun d u e _ => k d u e⟩, (R.tabs.keep fun b u e _ => k b u e), fun p hp => ⟨k _ _ (R.frz p hp).1, (R.frz p hp).2⟩⟩
/-- a new object -/
theorem Rel.new (R : Rel C ρ h H) (n : H p = none) (k : ∀ b u, H b = some u → H' b = some u) (r : RO C (ρ ++ [p]) H' p o) (hn : h.n + 1 < 2 ^ 20) : Rel C (ρ ++ [p]) ⟨h.n + 1, h.t.put 20 h.n o⟩ H' := by
  have nm := R.fresh n
  have hg : ∀ i, (h.t.put 20 h.n o).get i = if i = h.n then some o else h.t.get i := fun i => Tr.get_put 20 h.t h.n o i hn
  refine ⟨?_, ?_, fun i hi => ?_, fun i x e => ?_, (R.tabs.keep fun b u e _ => k b u e), fun p hp => ⟨k _ _ (R.frz p hp).1, (R.frz p hp).2⟩⟩
  · rw [List.nodup_append]
    exact ⟨R.nd, (by simp), fun x hx y hy e => by
      have : y = p := by simpa using hy
      subst this; subst e; exact nm hx⟩
  · rw [List.length_append, R.len]; rfl
  · show ((h.t.put 20 h.n o).get i).isSome = true
    rw [hg]
    by_cases e : i = h.n
    · rw [if_pos e]; rfl
    · rw [if_neg e]; exact R.dom i (by have : i < h.n + 1 := hi; omega)
  · have e' : (h.t.put 20 h.n o).get i = some x := e
    rw [hg] at e'
    by_cases q : i = h.n
    · rw [if_pos q] at e'; cases e'
      refine ⟨p, ?_, r⟩
      rw [q, ← R.len, List.getElem?_append_right (Nat.le_refl _)]; simp
    · rw [if_neg q] at e'
      obtain ⟨a, ea, ra⟩ := R.at_ i x e'
      obtain ⟨u, hu, _⟩ := ra.thing
      exact ⟨a, pre.app ρ p i a ea, ra.keep (pre.app ρ p) ((k _ _ hu).trans hu.symm) fun d u e _ => k d u e⟩
/-- an object is changed -/
theorem Rel.set (R : Rel C ρ h H) {i : Nat} (e : ρ[i]? = some a) (hn : h.n < 2 ^ 19) (k : ∀ b u, H b = some u → Still u → b ≠ a → H' b = some u)
    (kd : ∀ b d u, b ∈ ρ → b ≠ a → H d = some u → u = .own b ∨ u = .xd [] → H' d = some u) (kt : TabsR C H') (kf : ∀ p, p ∈ C.frz → p.1 ≠ a) (r : RO C ρ H' a o) : Rel C ρ ⟨h.n, h.t.put 20 i o⟩ H' := by
  have hi := R.lt e
  have hg : ∀ j, (h.t.put 20 i o).get j = if j = i then some o else h.t.get j := fun j => Tr.get_put 20 h.t i o j (by omega)
  refine ⟨R.nd, R.len, fun j hj => ?_, fun j x q => ?_, kt, fun p hp => ⟨k _ _ (R.frz p hp).1 (by obtain ⟨_, o, u, e⟩ := R.frz p hp; rw [e]; exact still_frz) (kf p hp), (R.frz p hp).2⟩⟩
  · show ((h.t.put 20 i o).get j).isSome = true
    rw [hg]
    by_cases z : j = i
    · rw [if_pos z]; rfl
    · rw [if_neg z]; exact R.dom j hj
  · have q' : (h.t.put 20 i o).get j = some x := q
    rw [hg] at q'
    by_cases z : j = i
    · rw [if_pos z] at q'; cases q'
      exact ⟨a, by rw [z]; exact e, r⟩
    · rw [if_neg z] at q'
      obtain ⟨b, eb, rb⟩ := R.at_ j x q'
      have nb : b ≠ a := fun w => by
        subst w
        obtain ⟨h1, e1⟩ := List.getElem?_eq_some_iff.mp eb
        obtain ⟨h2, e2⟩ := List.getElem?_eq_some_iff.mp e
        exact z ((List.getElem_inj R.nd).mp (e1.trans e2.symm))
      obtain ⟨u, hu, tu⟩ := rb.thing
      exact ⟨b, eb, rb.keep (pre.refl _) ((k b u hu tu nb).trans hu.symm) fun d u e z => kd b d u (List.mem_of_getElem? eb) nb e z⟩
theorem tabs_upd {C : Cst} (t : TabsR C H) {u u' : HO} (e : H a = some u) (n : Still u) : TabsR C (upd H a u') := t.keep fun b w hw tw => by
  rw [upd_ne]
  · exact hw
  · rintro rfl
    rw [e] at hw
    cases hw
    exact n.tab tw
/-- a list, a dict is changed -/
theorem Rel.upd (R : Rel C ρ h H) {i : Nat} (e : ρ[i]? = some a) (hn : h.n < 2 ^ 19) {u u' : HO} (ha : H a = some u) (tu : Thing u) (r : RO C ρ (upd H a u') a o) : Rel C ρ ⟨h.n, h.t.put 20 i o⟩ (upd H a u') := by
  refine R.set e hn (fun b u _ _ nb => by rw [upd_ne nb]; assumption) (fun b d w _ _ hd z => ?_) (tabs_upd R.tabs ha tu.1) (fun p hp z => ?_) r
  rotate_left
  · obtain ⟨h1, o, w, h2⟩ := R.frz p hp
    rw [z, ha] at h1; cases h1
    exact tu.2 _ _ h2
  rw [upd_ne]
  · exact hd
  · rintro rfl
    rw [ha] at hd; cases hd
    rcases z with z | z
    · exact tu.1.2.1 _ z
    · exact tu.1.2.2.1 z
end
end MR
set_option maxHeartbeats 4000000
/-! Mirror 2: what a mirror says of a reading; the plain expressions and statements. -/
namespace MR
open PySem PySem.Spec PyProof.Rows L2

abbrev LS := List (Option LV)
section
variable (C : Cst) (E : XK)
def RD (ρ : List Addr) (d : Option Nat) (da : Option Addr) : Prop := match d with
  | none => da = none
  | some i => ∃ a, ρ[i]? = some a ∧ da = some a
def ExOk (ρ : List Addr) (c : Nat) (d : Option Nat) (h : LH) : Prop := ∀ ρ' H' da, pre ρ ρ' → Rel C ρ' h H' → RD ρ' d da → E (.ref (C.exc c)) da H'
/-- what is asked of a reading's end by what the mirror gives -/
def OkG {α β : Type} (R : List Addr → α → β → Prop) (ρ : List Addr) (x : Out α) (Q : β → Hp → Prop) : Prop := match x with
  | .ok v h => ∀ ρ' H' u, pre ρ ρ' → Rel C ρ' h H' → R ρ' v u → Q u H'
  | .ex c d h => ExOk C E ρ c d h
  | .no => False
abbrev EqB : List Addr → Bool → Bool → Prop := fun _ a b => a = b
def ImE (t : TE) (f : LS → LH → Out LV) : Prop := ∀ (ρ : List Addr) (h : LH) (H : Hp) (l : LS) (σ : L2.St) (Q : VK), Rel C ρ h H → RSl ρ l σ → OkG C E RV ρ (f l h) Q → t σ H Q
def ImA (t : TA) (f : LS → LH → Out (List LV)) : Prop := ∀ (ρ : List Addr) (h : LH) (H : Hp) (l : LS) (σ : L2.St) (Q : List V → Hp → Prop), Rel C ρ h H → RSl ρ l σ → OkG C E RVs ρ (f l h) Q → t σ H Q
def ImT (t : TT) (f : LS → LH → Out Bool) : Prop := ∀ (ρ : List Addr) (h : LH) (H : Hp) (l : LS) (σ : L2.St) (Q : Bool → Hp → Prop), Rel C ρ h H → RSl ρ l σ → OkG C E EqB ρ (f l h) Q → t σ H Q
/-- how a statement ends -/
inductive LF where
  | nx (l : LS) | rt (v : LV) | bk (l : LS) | ct (l : LS)
def EndsOk (ρ : List Addr) (D : Ends) (x : Out LF) : Prop := match x with
  | .ok f h => ∀ ρ' H', pre ρ ρ' → Rel C ρ' h H' → match f with
    | .nx l => ∀ σ, RSl ρ' l σ → D.nx σ H'
    | .rt v => ∀ u, RV ρ' v u → D.rt u H'
    | .bk l => ∀ σ, RSl ρ' l σ → D.bk σ H'
    | .ct l => ∀ σ, RSl ρ' l σ → D.ct σ H'
  | .ex c d h => ExOk C E ρ c d h
  | .no => False
def ImS (t : TS) (f : LS → LH → Out LF) : Prop := ∀ (ρ : List Addr) (h : LH) (H : Hp) (l : LS) (σ : L2.St) (D : Ends), Rel C ρ h H → RSl ρ l σ → EndsOk C E ρ D (f l h) → t D σ H
/-- what a target's stores leave -/
def Fr (is : List Nat) (σ σ' : L2.St) : Prop := σ'.length = σ.length ∧ ∀ j, j ∉ is → σ'[j]? = σ[j]?
abbrev RSf (is : List Nat) (σ : L2.St) : List Addr → LS → L2.St → Prop := fun ρ l σ' => RSl ρ l σ' ∧ Fr is σ σ'
/-- a target: the slots behind it -/
def ImG (is : List Nat) (t : TG) (f : LV → LS → LH → Out LS) : Prop := ∀ (ρ : List Addr) (h : LH) (H : Hp) (v : LV) (u : V) (l : LS) (σ : L2.St) (Q : L2.St → Hp → Prop), Rel C ρ h H → RV ρ v u → RSl ρ l σ → OkG C E (RSf is σ) ρ (f v l h) Q → t u σ H Q
def ImGs (is : List Nat) (t : TGs) (f : List LV → LS → LH → Out LS) : Prop := ∀ (ρ : List Addr) (h : LH) (H : Hp) (v : List LV) (u : List V) (l : LS) (σ : L2.St) (Q : L2.St → Hp → Prop), Rel C ρ h H → RVs ρ v u → RSl ρ l σ → OkG C E (RSf is σ) ρ (f v l h) Q → t u σ H Q
variable (X : Cx)
def TrE (e : Expr) (f : LS → LH → Out LV) : Prop := ∃ t, PE X e t ∧ ImE C E t f
def TrA (es : List Expr) (f : LS → LH → Out (List LV)) : Prop := ∃ t, PA X es t ∧ ImA C E t f
def TrT (e : Expr) (f : LS → LH → Out Bool) : Prop := ∃ t, PT X e t ∧ ImT C E t f
def TrW (e : Expr) (f : LS → LH → Out Bool) : Prop := ∃ t, PW X e t ∧ ImT C E t f
def TrS (s : Stmt) (f : LS → LH → Out LF) : Prop := ∃ t, PS X s t ∧ ImS C E t f
def TrSs (s : List Stmt) (f : LS → LH → Out LF) : Prop := ∃ t, PSs X s t ∧ ImS C E t f
def TrG (e : Expr) (is : List Nat) (f : LV → LS → LH → Out LS) : Prop := ∃ t, PG X e t ∧ ImG C E is t f
def TrGs (e : List Expr) (is : List Nat) (f : List LV → LS → LH → Out LS) : Prop := ∃ t, PGs X e t ∧ ImGs C E is t f
end
section
variable {C : Cst} {E : XK} {α β γ δ : Type} {R : List Addr → α → β → Prop} {S : List Addr → γ → δ → Prop} {ρ ρ' : List Addr}
theorem ExOk.mono {c : Nat} {d : Option Nat} {h : LH} (x : ExOk C E ρ c d h) (p : pre ρ ρ') : ExOk C E ρ' c d h := fun ρ1 H1 da q r z => x ρ1 H1 da (p.trans q) r z
theorem OkG.mono {x : Out α} {Q : β → Hp → Prop} (o : OkG C E R ρ x Q) (p : pre ρ ρ') : OkG C E R ρ' x Q := by
  cases x with
  | ok v h => exact fun ρ1 H1 u q r z => o ρ1 H1 u (p.trans q) r z
  | ex c d h => exact ExOk.mono o p
  | no => exact o
/-- in a row -/
theorem OkG.bind {x : Out α} {k : α → LH → Out γ} {Q : δ → Hp → Prop} {rest : β → Hp → Prop} (o : OkG C E S ρ (x.bind k) Q)
    (f : ∀ v h1 ρ1 H1 u, pre ρ ρ1 → Rel C ρ1 h1 H1 → R ρ1 v u → OkG C E S ρ1 (k v h1) Q → rest u H1) : OkG C E R ρ x rest := by
  cases x with
  | ok v h =>
    have o' : OkG C E S ρ (k v h) Q := o
    exact fun ρ1 H1 u q r z => f v h ρ1 H1 u q r z (o'.mono q)
  | ex c d h => exact o
  | no => exact o
theorem EndsOk.mono {x : Out LF} {D : Ends} (o : EndsOk C E ρ D x) (p : pre ρ ρ') : EndsOk C E ρ' D x := by
  cases x with
  | ok v h => exact fun ρ1 H1 q r => o ρ1 H1 (p.trans q) r
  | ex c d h => exact ExOk.mono o p
  | no => exact o
theorem EndsOk.bind {x : Out α} {k : α → LH → Out LF} {D : Ends} {rest : β → Hp → Prop} (o : EndsOk C E ρ D (x.bind k))
    (f : ∀ v h1 ρ1 H1 u, pre ρ ρ1 → Rel C ρ1 h1 H1 → R ρ1 v u → EndsOk C E ρ1 D (k v h1) → rest u H1) : OkG C E R ρ x rest := by
  cases x with
  | ok v h =>
    have o' : EndsOk C E ρ D (k v h) := o
    exact fun ρ1 H1 u q r z => f v h ρ1 H1 u q r z (o'.mono q)
  | ex c d h => exact o
  | no => exact o
theorem OkG.here {v : α} {h : LH} {H : Hp} {u : β} {Q : β → Hp → Prop} (o : OkG C E R ρ (.ok v h) Q) (r : Rel C ρ h H) (z : R ρ v u) : Q u H := o ρ H u (pre.refl ρ) r z
end

/-! ### slots -/
def nth : LS → Nat → Option LV
  | [], _ => none
  | a :: _, 0 => a
  | _ :: r, n + 1 => nth r n
theorem nth_eq : ∀ {l : LS} {i : Nat} {v : LV}, nth l i = some v → l[i]? = some (some v)
  | a :: r, 0, v, h => by have h : a = some v := h; rw [h]; rfl
  | a :: r, n + 1, v, h => by
    have h : nth r n = some v := h
    rw [List.getElem?_cons_succ]; exact nth_eq h
theorem RSl.set {ρ : List Addr} {l : LS} {σ : L2.St} (r : RSl ρ l σ) (i : Nat) {v : LV} {u : V} (z : RV ρ v u) : RSl ρ (l.set i (some v)) (σ.set i (some u)) := by
  refine ⟨by rw [List.length_set, List.length_set]; exact r.1, fun j w hj => ?_⟩
  by_cases e : i = j
  · subst e
    have hl : i < l.length := by
      have := (List.getElem?_eq_some_iff.mp hj).1
      rwa [List.length_set] at this
    rw [List.getElem?_set_self hl] at hj
    cases hj
    exact ⟨u, by rw [List.getElem?_set_self (by rw [← r.1]; exact hl)], z⟩
  · rw [List.getElem?_set_ne e] at hj
    obtain ⟨u', a, b⟩ := r.2 j w hj
    exact ⟨u', by rw [List.getElem?_set_ne e]; exact a, b⟩
theorem RSl.unset {ρ : List Addr} {l : LS} {σ : L2.St} (r : RSl ρ l σ) (i : Nat) (o : Option V) : RSl ρ (l.set i none) (σ.set i o) := by
  refine ⟨by rw [List.length_set, List.length_set]; exact r.1, fun j w hj => ?_⟩
  by_cases e : i = j
  · subst e
    have hl : i < l.length := by
      have := (List.getElem?_eq_some_iff.mp hj).1
      rwa [List.length_set] at this
    rw [List.getElem?_set_self hl] at hj
    cases hj
  · rw [List.getElem?_set_ne e] at hj
    obtain ⟨u', a, b⟩ := r.2 j w hj
    exact ⟨u', by rw [List.getElem?_set_ne e]; exact a, b⟩

/-! ### expressions -/
def eVar (i : Nat) : LS → LH → Out LV := fun l h => match nth l i with
  | some v => .ok v h
  | none => .no
def eC (v : LV) : LS → LH → Out LV := fun _ h => .ok v h
section
variable {C : Cst} {E : XK} {X : Cx} {pos : Pos}
theorem im_var (i : Nat) : ImE C E (tVar i) (eVar i) := fun ρ h H l σ Q R S o => by
  unfold eVar at o
  cases e : nth l i with
  | none => rw [e] at o; exact o.elim
  | some v =>
    rw [e] at o
    obtain ⟨u, a, b⟩ := S.2 i v (nth_eq e)
    exact ⟨u, a, o.here R b⟩
theorem e_var (i : Nat) {x : Str} (hN : X.N[i]? = some x := by rfl) (hv : Vis X.env.scope x := by first | exact Or.inl rfl | exact Or.inr (Or.inl rfl) | exact Or.inr (Or.inr rfl)) (hd : (x == ("__debug__" : Str)) = false := by decide)
    (hcd : (x == ("__classdict__" : Str)) = false := by decide) : TrE C E X (.Name x pos) (eVar i) := ⟨_, pe_var hN hv hd hcd, im_var i⟩
theorem im_c {v : LV} {u : V} (r : ∀ ρ, RV ρ v u) : ImE C E (tC u) (eC v) := fun ρ h H l σ Q R S o => o.here R (r ρ)
theorem e_int {i : Int} {j : Nat} : TrE C E X (.Constant (.int i) j pos) (eC (.int i)) := ⟨_, pe_int, im_c fun _ => .int i⟩
theorem e_bl {b : Bool} {j : Nat} : TrE C E X (.Constant (.bool b) j pos) (eC (.bl b)) := ⟨_, pe_bl, im_c fun _ => .bl b⟩
theorem e_non {j : Nat} : TrE C E X (.Constant .none j pos) (eC .non) := ⟨_, pe_non, im_c fun _ => .non⟩
theorem e_str {x : Str} {j : Nat} (y : List Nat) (e : x = ⟨⟨y⟩⟩) : TrE C E X (.Constant (.str x) j pos) (eC (.str y)) := ⟨_, pe_str, im_c fun _ => by rw [e]; exact .str y⟩
/-- two values and what is done with them -/
def eOp (g : LV → LV → LH → Out LV) (fa fb : LS → LH → Out LV) : LS → LH → Out LV := fun l h => (fa l h).bind fun x h1 => (fb l h1).bind fun y h2 => g x y h2
def Im2 (C : Cst) (E : XK) (r : R2) (g : LV → LV → LH → Out LV) : Prop := ∀ (ρ : List Addr) (h : LH) (H : Hp) (x y : LV) (u v : V) (Q : VK), Rel C ρ h H → RV ρ x u → RV ρ y v → OkG C E RV ρ (g x y h) Q → r u v H Q
def Im1 (C : Cst) (E : XK) (r : V → Hp → VK → Prop) (g : LV → LH → Out LV) : Prop := ∀ (ρ : List Addr) (h : LH) (H : Hp) (x : LV) (u : V) (Q : VK), Rel C ρ h H → RV ρ x u → OkG C E RV ρ (g x h) Q → r u H Q
def ImL (C : Cst) (E : XK) (r : List V → Hp → VK → Prop) (g : List LV → LH → Out LV) : Prop := ∀ (ρ : List Addr) (h : LH) (H : Hp) (x : List LV) (u : List V) (Q : VK), Rel C ρ h H → RVs ρ x u → OkG C E RV ρ (g x h) Q → r u H Q
variable {a b c : Expr} {fa fb fc : LS → LH → Out LV} {ta tb : TE}
theorem im_op {r : R2} {g : LV → LV → LH → Out LV} (hg : Im2 C E r g) (ha : ImE C E ta fa) (hb : ImE C E tb fb) : ImE C E (tOp r ta tb) (eOp g fa fb) := fun ρ h H l σ Q R S o =>
  ha ρ h H l σ _ R S (o.bind fun x h1 ρ1 H1 u p1 R1 z1 o1 => hb ρ1 h1 H1 l σ _ R1 (S.mono p1) (o1.bind fun y h2 ρ2 H2 v p2 R2 z2 o2 => hg ρ2 h2 H2 x y u v Q R2 (z1.mono p2) z2 o2))
theorem e_op {op : Operator} {r : R2} {g : LV → LV → LH → Out LV} (ho : OpR X (binaryOp op) r) (hg : Im2 C E r g) (ha : TrE C E X a fa) (hb : TrE C E X b fb) : TrE C E X (.BinOp a op b pos) (eOp g fa fb) :=
  let ⟨_, p, i⟩ := ha; let ⟨_, q, j⟩ := hb; ⟨_, pe_op ho p q, im_op hg i j⟩
theorem e_cmp {op : CmpOp} {r : R2} {g : LV → LV → LH → Out LV} (ho : OpR X (compareOp op) r) (hg : Im2 C E r g) (ha : TrE C E X a fa) (hb : TrE C E X b fb) (hm : behindInMarks op b = false := by first | exact nomark _ | with_unfolding_all rfl) : TrE C E X (.Compare a [op] [b] pos) (eOp g fa fb) :=
  let ⟨_, p, i⟩ := ha; let ⟨_, q, j⟩ := hb; ⟨_, pe_cmpR ho p q hm, im_op hg i j⟩
def oBool (v : LV) (h : LH) : Out Bool := match v with
  | .bl b => .ok b h
  | _ => .no
/-- a value that is a bool, as a test -/
def tOf (f : LS → LH → Out LV) : LS → LH → Out Bool := fun l h => (f l h).bind oBool
theorem im_tOf {t : TE} {f : LS → LH → Out LV} (i : ImE C E t f) : ImT C E (tTest t) (tOf f) := fun ρ h H l σ Q R S o =>
  i ρ h H l σ _ R S (o.bind fun v h1 ρ1 H1 u p R1 z o1 => by
    cases z with
    | bl k => exact ⟨k, rfl, o1.here R1 rfl⟩
    | _ => exact o1.elim)
theorem t_cmp {op : CmpOp} {r : R2} {g : LV → LV → LH → Out LV} (ho : OpR X (compareOp op) r) (hg : Im2 C E r g) (ha : TrE C E X a fa) (hb : TrE C E X b fb) (hm : behindInMarks op b = false := by first | exact nomark _ | with_unfolding_all rfl) : TrT C E X (.Compare a [op] [b] pos) (tOf (eOp g fa fb)) :=
  let ⟨_, p, i⟩ := ha; let ⟨_, q, j⟩ := hb; ⟨_, pt_cmpR ho p q hm, im_tOf (im_op hg i j)⟩
/-- any expression that gives a bool, as a test -/
theorem t_val {e : Expr} {f : LS → LH → Out LV} (h : TrE C E X e f) (he : ∀ whole, isTrue e X.env whole = (do let v ← whole; standAt e.pos; holding [v] (truthy v)) := by intro _; rfl) : TrT C E X e (tOf f) :=
  let ⟨_, p, i⟩ := h; ⟨_, pt_val p he, im_tOf i⟩
/-! and, or, not -/
def eAnd (fa fb : LS → LH → Out LV) : LS → LH → Out LV := fun l h => (fa l h).bind fun x h1 => match x with
  | .bl true => fb l h1
  | .bl false => .ok (.bl false) h1
  | _ => .no
def eOr (fa fb : LS → LH → Out LV) : LS → LH → Out LV := fun l h => (fa l h).bind fun x h1 => match x with
  | .bl true => .ok (.bl true) h1
  | .bl false => fb l h1
  | _ => .no
def eNot (fa : LS → LH → Out LV) : LS → LH → Out LV := fun l h => (fa l h).bind fun x h1 => match x with
  | .bl b => .ok (.bl (!b)) h1
  | _ => .no
variable {rest : List Expr}
theorem e_one {op} (ha : TrE C E X a fa) : TrE C E X (.BoolOp op [a] pos) fa := let ⟨_, p, i⟩ := ha; ⟨_, pe_one p, i⟩
theorem e_and (ha : TrE C E X a fa) (hb : TrE C E X (.BoolOp .And (b :: rest) pos) fb) : TrE C E X (.BoolOp .And (a :: b :: rest) pos) (eAnd fa fb) := by
  obtain ⟨t, p, i⟩ := ha
  obtain ⟨t', q, j⟩ := hb
  refine ⟨_, pe_and p q, fun ρ h H l σ Q R S o => i ρ h H l σ _ R S (o.bind fun v h1 ρ1 H1 u p1 R1 z o1 => ?_)⟩
  cases z with
  | bl k =>
    refine ⟨k, rfl, ?_⟩
    cases k with
    | true => rw [if_pos rfl]; exact j ρ1 h1 H1 l σ Q R1 (S.mono p1) o1
    | false => rw [if_neg Bool.false_ne_true]; exact o1.here R1 (.bl false)
  | _ => exact o1.elim
theorem e_or (ha : TrE C E X a fa) (hb : TrE C E X (.BoolOp .Or (b :: rest) pos) fb) : TrE C E X (.BoolOp .Or (a :: b :: rest) pos) (eOr fa fb) := by
  obtain ⟨t, p, i⟩ := ha
  obtain ⟨t', q, j⟩ := hb
  refine ⟨_, pe_or p q, fun ρ h H l σ Q R S o => i ρ h H l σ _ R S (o.bind fun v h1 ρ1 H1 u p1 R1 z o1 => ?_)⟩
  cases z with
  | bl k =>
    refine ⟨k, rfl, ?_⟩
    cases k with
    | false => rw [if_neg Bool.false_ne_true]; exact j ρ1 h1 H1 l σ Q R1 (S.mono p1) o1
    | true => rw [if_pos rfl]; exact o1.here R1 (.bl true)
  | _ => exact o1.elim
theorem e_not (ha : TrE C E X a fa) : TrE C E X (.UnaryOp .Not a pos) (eNot fa) := by
  obtain ⟨t, p, i⟩ := ha
  refine ⟨_, pe_not p, fun ρ h H l σ Q R S o => i ρ h H l σ _ R S (o.bind fun v h1 ρ1 H1 u p1 R1 z o1 => ?_)⟩
  cases z with
  | bl k => exact ⟨k, rfl, o1.here R1 (.bl (!k))⟩
  | _ => exact o1.elim
def bAnd (fa fb : LS → LH → Out Bool) : LS → LH → Out Bool := fun l h => (fa l h).bind fun x h1 => match x with
  | true => fb l h1
  | false => .ok false h1
def bOr (fa fb : LS → LH → Out Bool) : LS → LH → Out Bool := fun l h => (fa l h).bind fun x h1 => match x with
  | true => .ok true h1
  | false => fb l h1
def bNot (fa : LS → LH → Out Bool) : LS → LH → Out Bool := fun l h => (fa l h).bind fun x h1 => .ok (!x) h1
variable {ga gb : LS → LH → Out Bool}
theorem w_and1 (ha : TrT C E X a ga) : TrW C E X (.BoolOp .And [a] pos) ga := let ⟨_, p, i⟩ := ha; ⟨_, pw_and1 p, i⟩
theorem w_or1 (ha : TrT C E X a ga) : TrW C E X (.BoolOp .Or [a] pos) ga := let ⟨_, p, i⟩ := ha; ⟨_, pw_or1 p, i⟩
theorem w_and (ha : TrT C E X a ga) (hb : TrW C E X (.BoolOp .And (b :: rest) pos) gb) : TrW C E X (.BoolOp .And (a :: b :: rest) pos) (bAnd ga gb) := by
  obtain ⟨t, p, i⟩ := ha
  obtain ⟨t', q, j⟩ := hb
  refine ⟨_, pw_and p q, fun ρ h H l σ Q R S o => i ρ h H l σ _ R S (o.bind fun v h1 ρ1 H1 u p1 R1 z o1 => ?_)⟩
  cases z
  cases v with
  | true => rw [if_pos rfl]; exact j ρ1 h1 H1 l σ Q R1 (S.mono p1) o1
  | false => rw [if_neg Bool.false_ne_true]; exact o1.here R1 rfl
theorem w_or (ha : TrT C E X a ga) (hb : TrW C E X (.BoolOp .Or (b :: rest) pos) gb) : TrW C E X (.BoolOp .Or (a :: b :: rest) pos) (bOr ga gb) := by
  obtain ⟨t, p, i⟩ := ha
  obtain ⟨t', q, j⟩ := hb
  refine ⟨_, pw_or p q, fun ρ h H l σ Q R S o => i ρ h H l σ _ R S (o.bind fun v h1 ρ1 H1 u p1 R1 z o1 => ?_)⟩
  cases z
  cases v with
  | false => rw [if_neg Bool.false_ne_true]; exact j ρ1 h1 H1 l σ Q R1 (S.mono p1) o1
  | true => rw [if_pos rfl]; exact o1.here R1 rfl
theorem w_t (h : TrW C E X a ga) : TrT C E X a ga := let ⟨_, p, i⟩ := h; ⟨_, p.pt, i⟩
theorem t_not (ha : TrT C E X a ga) : TrT C E X (.UnaryOp .Not a pos) (bNot ga) := by
  obtain ⟨t, p, i⟩ := ha
  refine ⟨_, pt_not p, fun ρ h H l σ Q R S o => i ρ h H l σ _ R S (o.bind fun v h1 ρ1 H1 u p1 R1 z o1 => ?_)⟩
  cases z
  exact o1.here R1 rfl
def eIf (g : LS → LH → Out Bool) (fa fb : LS → LH → Out LV) : LS → LH → Out LV := fun l h => (g l h).bind fun x h1 => match x with
  | true => fa l h1
  | false => fb l h1
theorem e_if (hc : TrT C E X c ga) (ha : TrE C E X a fa) (hb : TrE C E X b fb) : TrE C E X (.IfExp c a b pos) (eIf ga fa fb) := by
  obtain ⟨t, p, i⟩ := hc
  obtain ⟨t1, p1, i1⟩ := ha
  obtain ⟨t2, p2, i2⟩ := hb
  refine ⟨_, pe_ifExp p p1 p2, fun ρ h H l σ Q R S o => i ρ h H l σ _ R S (o.bind fun v h1 ρ1 H1 u p1 R1 z o1 => ?_)⟩
  cases z
  cases v with
  | true => rw [if_pos rfl]; exact i1 ρ1 h1 H1 l σ Q R1 (S.mono p1) o1
  | false => rw [if_neg Bool.false_ne_true]; exact i2 ρ1 h1 H1 l σ Q R1 (S.mono p1) o1
/-! argument lists, displays -/
def aNil : LS → LH → Out (List LV) := fun _ h => .ok [] h
def aCons (f : LS → LH → Out LV) (g : LS → LH → Out (List LV)) : LS → LH → Out (List LV) := fun l h => (f l h).bind fun x h1 => (g l h1).bind fun xs h2 => .ok (x :: xs) h2
variable {es : List Expr} {fs : LS → LH → Out (List LV)}
theorem a_nil : TrA C E X [] aNil := ⟨_, pa_nil, fun ρ h H l σ Q R S o => o.here R .nil⟩
theorem a_cons (ha : TrE C E X a fa) (hr : TrA C E X es fs) (hs : starEach (a :: es) X.env = (false, eval a X.env) :: starEach es X.env := by rfl) : TrA C E X (a :: es) (aCons fa fs) := by
  obtain ⟨t, p, i⟩ := ha
  obtain ⟨t', q, j⟩ := hr
  refine ⟨_, pa_cons p q hs, fun ρ h H l σ Q R S o => i ρ h H l σ _ R S (o.bind fun v h1 ρ1 H1 u p1 R1 z o1 => j ρ1 h1 H1 l σ _ R1 (S.mono p1) (o1.bind fun vs h2 ρ2 H2 us p2 R2 zs o2 => o2.here R2 (.cons (z.mono p2) zs)))⟩
def eNew (k : List LV → LO) (f : LS → LH → Out (List LV)) : LS → LH → Out LV := fun l h => (f l h).bind fun xs h1 => match Nat.blt xs.length 1000 with
  | true => h1.new (k xs) fun n h2 => .ok (.ref n) h2
  | false => .no
theorem blt_lt {a b : Nat} (h : Nat.blt a b = true) : a < b := Nat.le_of_ble_eq_true h
/-- a new object: where it stands -/
theorem OkG.new {h : LH} {H : Hp} {ρ : List Addr} {o : LO} {k : Nat → LH → Out LV} {Q : VK} (x : OkG C E RV ρ (h.new o k) Q) (R : Rel C ρ h H) {p : Addr} {u : HO} (n : H p = none) (r : RO C (ρ ++ [p]) (upd H p u) p o) :
    Rel C (ρ ++ [p]) ⟨h.n + 1, h.t.put 20 h.n o⟩ (upd H p u) ∧ (ρ ++ [p])[h.n]? = some p ∧ pre ρ (ρ ++ [p]) ∧ OkG C E RV ρ (k h.n ⟨h.n + 1, h.t.put 20 h.n o⟩) Q := by
  unfold LH.new at x
  rw [frN_eq] at x
  cases e : Nat.blt h.n 1000000 with
  | false => rw [e] at x; exact x.elim
  | true =>
    rw [e] at x
    refine ⟨R.new n (fun b w hb => by rw [upd_ne (ne_of_none hb n)]; exact hb) r (by have := blt_lt e; omega), ?_, pre.app ρ p, x⟩
    rw [← R.len, List.getElem?_append_right (Nat.le_refl _)]; simp
theorem size_le {n : Nat} (h : n < 1000) : n ≤ sizeLine := by rw [sizeLine_eq]; omega
theorem e_tup {x1} (ha : TrA C E X es fs) : TrE C E X (.Tuple es x1 pos) (eNew .tup fs) := by
  obtain ⟨t, p, i⟩ := ha
  refine ⟨_, pe_tup p, fun ρ h H l σ Q R S o => i ρ h H l σ _ R S (o.bind fun vs h1 ρ1 H1 us p1 R1 z o1 => ?_)⟩
  cases e : Nat.blt vs.length 1000 with
  | false => rw [e] at o1; exact o1.elim
  | true =>
    rw [e] at o1
    have hl := z.length
    refine ⟨size_le (by have := blt_lt e; omega), fun q n => ?_⟩
    obtain ⟨R2, e2, p2, o2⟩ := OkG.new o1 R1 n ⟨us, z.mono (pre.app _ _), upd_same⟩
    exact o2 _ _ _ p2 R2 (.ref e2)
theorem e_lst (ha : TrA C E X es fs) : TrE C E X (.List es pos) (eNew .lst fs) := by
  obtain ⟨t, p, i⟩ := ha
  refine ⟨_, pe_lst p, fun ρ h H l σ Q R S o => i ρ h H l σ _ R S (o.bind fun vs h1 ρ1 H1 us p1 R1 z o1 => ?_)⟩
  cases e : Nat.blt vs.length 1000 with
  | false => rw [e] at o1; exact o1.elim
  | true =>
    rw [e] at o1
    have hl := z.length
    refine ⟨size_le (by have := blt_lt e; omega), fun q n => ?_⟩
    obtain ⟨R2, e2, p2, o2⟩ := OkG.new o1 R1 n ⟨us, z.mono (pre.app _ _), upd_same⟩
    exact o2 _ _ _ p2 R2 (.ref e2)
end
/-! ### statements -/
def sNil : LS → LH → Out LF := fun l h => .ok (.nx l) h
def sCons (f g : LS → LH → Out LF) : LS → LH → Out LF := fun l h => (f l h).bind fun x h1 => match x with
  | .nx l1 => g l1 h1
  | .rt v => .ok (.rt v) h1
  | .bk l1 => .ok (.bk l1) h1
  | .ct l1 => .ok (.ct l1) h1
def sRet (f : LS → LH → Out LV) : LS → LH → Out LF := fun l h => (f l h).bind fun v h1 => .ok (.rt v) h1
def sDrop (f : LS → LH → Out LV) : LS → LH → Out LF := fun l h => (f l h).bind fun _ h1 => .ok (.nx l) h1
def sIf (c : LS → LH → Out Bool) (f g : LS → LH → Out LF) : LS → LH → Out LF := fun l h => (c l h).bind fun b h1 => match b with
  | true => f l h1
  | false => g l h1
def sAsg (f : LS → LH → Out LV) (g : LV → LS → LH → Out LS) : LS → LH → Out LF := fun l h => (f l h).bind fun v h1 => (g v l h1).bind fun l1 h2 => .ok (.nx l1) h2
def gN (i : Nat) : LV → LS → LH → Out LS := fun v l h => .ok (l.set i (some v)) h
section
variable {C : Cst} {E : XK} {X : Cx} {pos : Pos} {st : Stmt} {rest : List Stmt} {f g : LS → LH → Out LF} {e : Expr} {fe : LS → LH → Out LV}
theorem ss_nil : TrSs C E X [] sNil := ⟨_, pss_nil, fun ρ h H l σ D R S o => o ρ H (pre.refl _) R σ S⟩
theorem EndsOk.seq {ρ : List Addr} {x : Out LF} {k : LS → LH → Out LF} {D : Ends} {u : TS} (j : ImS C E u k) (o : EndsOk C E ρ D (x.bind fun x h1 => match x with
  | .nx l1 => k l1 h1
  | .rt v => .ok (.rt v) h1
  | .bk l1 => .ok (.bk l1) h1
  | .ct l1 => .ok (.ct l1) h1)) : EndsOk C E ρ { D with nx := u D } x := by
  cases x with
  | no => exact o
  | ex c d h => exact o
  | ok fl h =>
    cases fl with
    | nx l1 => exact fun ρ1 H1 p R σ S => j ρ1 h H1 l1 σ D R S (EndsOk.mono (x := k l1 h) o p)
    | rt v => exact o
    | bk l1 => exact o
    | ct l1 => exact o
theorem ss_cons (h1 : TrS C E X st f) (h2 : TrSs C E X rest g) : TrSs C E X (st :: rest) (sCons f g) := by
  obtain ⟨t, p, i⟩ := h1
  obtain ⟨u, q, j⟩ := h2
  exact ⟨_, pss_cons p q, fun ρ h H l σ D R S o => i ρ h H l σ _ R S (EndsOk.seq j o)⟩
theorem ss_one (h1 : TrS C E X st f) : TrSs C E X [st] f := let ⟨_, p, i⟩ := h1; ⟨_, pss_one p, i⟩
theorem s_ret (he : TrE C E X e fe) : TrS C E X (.Return (some e) pos) (sRet fe) := by
  obtain ⟨t, p, i⟩ := he
  refine ⟨_, ps_ret p, fun ρ h H l σ D R S o => i ρ h H l σ _ R S (EndsOk.bind o fun v h1 ρ1 H1 u p1 R1 z o1 => ?_)⟩
  exact o1 ρ1 H1 (pre.refl _) R1 u z
theorem s_expr (he : TrE C E X e fe) (hs : swapsWith e none pos.line X.env = pure false := by rfl) : TrS C E X (.Expr e pos) (sDrop fe) := by
  obtain ⟨t, p, i⟩ := he
  refine ⟨_, ps_expr p hs, fun ρ h H l σ D R S o => i ρ h H l σ _ R S (EndsOk.bind o fun v h1 ρ1 H1 u p1 R1 z o1 => ?_)⟩
  exact o1 ρ1 H1 (pre.refl _) R1 σ (S.mono p1)
theorem s_if {c : Expr} {a b : List Stmt} {gc : LS → LH → Out Bool} (hc : TrT C E X c gc) (ha : TrSs C E X a f) (hb : TrSs C E X b g) : TrS C E X (.If c a b pos) (sIf gc f g) := by
  obtain ⟨t, p, i⟩ := hc
  obtain ⟨t1, p1, i1⟩ := ha
  obtain ⟨t2, p2, i2⟩ := hb
  refine ⟨_, ps_if p p1 p2, fun ρ h H l σ D R S o => i ρ h H l σ _ R S (EndsOk.bind (R := EqB) o fun v h1 ρ1 H1 u p1 R1 z o1 => ?_)⟩
  cases z
  cases v with
  | true => rw [if_pos rfl]; exact i1 ρ1 h1 H1 l σ D R1 (S.mono p1) o1
  | false => rw [if_neg Bool.false_ne_true]; exact i2 ρ1 h1 H1 l σ D R1 (S.mono p1) o1
theorem Fr.set (σ : L2.St) (i : Nat) (o : Option V) : Fr [i] σ (σ.set i o) := ⟨List.length_set, fun j hj => by
  rw [List.getElem?_set_ne]
  intro e; exact hj (by simp [e])⟩
theorem im_gname (i : Nat) : ImG C E [i] (gName i) (gN i) := fun ρ h H v u l σ Q R z S o => o.here R ⟨S.set i z, Fr.set σ i _⟩
theorem g_name {x : Str} (i : Nat) (hN : X.N.Nodup) (hi : X.N[i]? = some x := by rfl) (hx : Loc X.env.scope x := by first | exact Or.inl rfl | exact Or.inr rfl) (hf : X.fn x = true ∨ X.env.scope.names.lookup x = some .local := by first | exact .inl rfl | exact .inr rfl) : TrG C E X (.Name x pos) [i] (gN i) :=
  ⟨_, pg_name hN hi hx hf, im_gname i⟩
theorem im_asg {t : TE} {tg : TG} {is : List Nat} {fg : LV → LS → LH → Out LS} (i : ImE C E t fe) (j : ImG C E is tg fg) : ImS C E (tAsg t tg) (sAsg fe fg) := fun ρ h H l σ D R S o =>
  i ρ h H l σ _ R S (EndsOk.bind o fun v h1 ρ1 H1 u p1 R1 z o1 => j ρ1 h1 H1 v u l σ _ R1 z (S.mono p1) (EndsOk.bind o1 fun l1 h2 ρ2 H2 σ2 p2 R2 S2 o2 => o2 ρ2 H2 (pre.refl _) R2 σ2 S2.1))
/-- name = e -/
theorem s_set {x : Str} {pos' : Pos} (i : Nat) (hN : X.N.Nodup) (he : TrE C E X e fe) (hi : X.N[i]? = some x := by rfl) (hx : Loc X.env.scope x := by first | exact Or.inl rfl | exact Or.inr rfl) (hs : swapsWith e (some (.Name x pos')) pos.line X.env = pure false := by rfl)
    (hf : X.fn x = true ∨ X.env.scope.names.lookup x = some .local := by first | exact .inl rfl | exact .inr rfl) : TrS C E X (.Assign [.Name x pos'] e pos) (sAsg fe (gN i)) :=
  let ⟨_, p, j⟩ := he; ⟨_, ps_set hN hi hx p hs hf, im_asg j (im_gname i)⟩
/-- target = e -/
theorem s_asg {tg : Expr} {is : List Nat} {fg : LV → LS → LH → Out LS} (he : TrE C E X e fe) (hg : TrG C E X tg is fg) (hs : swapsWithSole [tg] e pos.line X.env = pure false := by rfl) (hw : swappedStores [tg] e X.env = pure none := by rfl)
    (h1 : (assignEach [tg] X.env).map (·.2) = [assign tg X.env] := by rfl) : TrS C E X (.Assign [tg] e pos) (sAsg fe fg) :=
  let ⟨_, p, j⟩ := he; let ⟨_, q, k⟩ := hg; ⟨_, ps_asg p q hs hw h1, im_asg j k⟩
end
end MR
set_option maxHeartbeats 4000000
/-! Mirror 3: defs and their calls; numbers; isinstance, len. -/
namespace MR
open PySem PySem.Spec PyProof.Rows L2

/-! ### the promise of a def: it does what its mirror does -/
abbrev Fn := List LV → LH → Out LV
def spM (C : Cst) (n : Nat) (m : Fn) : Sp := fun vs H Q E => vs.length = n ∧ ∃ (ρ : List Addr) (h : LH) (ls : List LV), Rel C ρ h H ∧ RVs ρ ls vs ∧ OkG C E RV ρ (m ls h) Q
def startL (N : Nat) (ls : List LV) : LS := ls.map some ++ List.replicate (N - ls.length) none
def mFn (N : Nat) (F : LS → LH → Out LF) : Fn := fun ls h => (F (startL N ls) h).bind fun f h1 => match f with
  | .nx _ => .ok .non h1
  | .rt v => .ok v h1
  | _ => .no
theorem start_rel {ρ : List Addr} {ls : List LV} {vs : List V} {N : List Str} (r : RVs ρ ls vs) : RSl ρ (startL N.length ls) (L2.start N vs) := by
  have hl := r.length
  unfold startL L2.start
  rw [hl]
  refine ⟨by simp [hl], fun i v h => ?_⟩
  by_cases hi : i < ls.length
  · rw [List.getElem?_append_left (by simpa using hi), List.getElem?_map] at h
    rw [List.getElem?_append_left (by simpa using (hl ▸ hi)), List.getElem?_map]
    have key : ∀ {ls : List LV} {vs : List V} {i : Nat}, RVs ρ ls vs → (ls[i]?).map some = some (some v) → ∃ u, (vs[i]?).map some = some (some u) ∧ RV ρ v u := by
      intro ls vs i r
      induction r generalizing i with
      | nil => intro h; simp at h
      | cons z t ih =>
        cases i with
        | zero => intro h; simp at h; subst h; exact ⟨_, rfl, z⟩
        | succ i => intro h; simpa using ih (i := i) (by simpa using h)
    exact key r h
  · rw [List.getElem?_append_right (by simpa using hi), List.getElem?_replicate] at h
    split at h <;> cases h
theorem fn_ok {P : Program} {w : World} {K : PySem.W.Frag} {mg : Str → Option Value} {base : Heap} {C : Cst} {x qual : Str} {st : Stmt} {f : Addr} {fd : FuncData} {N ps : List Str} {k : Nat} {F : LS → LH → Out LF} (Fd : Fun K x qual st f fd) (S : FnScope N ps (defScope st))
    (hb : ∀ (cdv : Value) (A : Around) (outer : List Env) (s : Shared) (H : Hp) (E : XK), Room k (A.deeper (envOfC qual (defScope st) s.heap.objs.size f cdv)) → TrSs C E (cxOf (L2.CX P w) P w K mg base N qual (defScope st) f cdv A outer s H E) (defBody st) F) :
    FnOk P w K mg base (L2.CX P w) (k + 1) f fd ps (spM C ps.length (mFn N.length F)) := by
  refine Fd.okX S (fun vs H Q E h => h.1) fun cdv A outer s H vs Q E hr h => ?_
  obtain ⟨t, p, i⟩ := hb cdv A outer s H E hr
  refine ⟨t, p, ?_⟩
  obtain ⟨hl, ρ, h, ls, R, z, o⟩ := h
  refine i ρ h H _ _ _ R (start_rel z) ?_
  unfold mFn at o
  cases e : F (startL N.length ls) h with
  | no => rw [e] at o; exact o
  | ex c d h1 => rw [e] at o; exact o
  | ok fl h1 =>
    rw [e] at o
    cases fl with
    | nx l1 => exact fun ρ1 H1 p1 R1 σ1 S1 => o ρ1 H1 .non p1 R1 .non
    | rt v => exact fun ρ1 H1 p1 R1 u z1 => o ρ1 H1 u p1 R1 z1
    | bk l1 => exact o.elim
    | ct l1 => exact o.elim
/-- a def as a callee finds it -/
structure Cal (P : Program) (w : World) (K : PySem.W.Frag) (mg : Str → Option Value) (base : Heap) (C : Cst) (x : Str) (k n : Nat) (m : Fn) : Prop where
  ex : ∃ (f : Addr) (fd : FuncData) (ps : List Str), ps.length = n ∧ mg x = some (.ref f) ∧ PySem.W.keepIn K (.ref f) = true ∧ Binds K fd ps [] ∧ FnOk P w K mg base (L2.CX P w) k f fd ps (spM C n m)
def eCall (n : Nat) (m : Fn) (fs : LS → LH → Out (List LV)) : LS → LH → Out LV := fun l h => (fs l h).bind fun xs h1 => match Nat.beq xs.length n with
  | true => m xs h1
  | false => .no
section
variable {C : Cst} {E : XK} {X : Cx} {pos p : Pos} {a : Expr} {es : List Expr} {fs : LS → LH → Out (List LV)}
theorem im_call {n : Nat} {m : Fn} {ta : TA} (i : ImA C E ta fs) : ImE C E (tCall (spM C n m) [] E ta) (eCall n m fs) := fun ρ h H l σ Q R S o =>
  i ρ h H l σ _ R S (o.bind fun xs h1 ρ1 H1 us p1 R1 z o1 => by
    cases e : Nat.beq xs.length n with
    | false => rw [e] at o1; exact o1.elim
    | true =>
      rw [e] at o1
      rw [List.append_nil]
      exact ⟨by rw [← z.length]; exact Nat.eq_of_beq_eq_true e, ρ1, h1, xs, R1, z, o1⟩)
theorem e_call {x : Str} {k n : Nat} {m : Fn} (c : Cal X.prog X.w X.K X.mg X.base C x k n m) (hr : Room k X.A) (hx : Passes (L2.CX X.prog X.w) X E) (ha : TrA C E X (a :: es) fs) (hg : Gl X x := by rfl) (hdb : (x == ("__debug__" : Str)) = false := by decide)
    (he : starEach (a :: es) X.env = (false, eval a X.env) :: starEach es X.env := by rfl) (hpl : (backTo pos (starEach es X.env)).any (·.1) = false := by rfl) : TrE C E X (.Call (.Name x p) (a :: es) [] pos) (eCall n m fs) := by
  obtain ⟨f, fd, ps, hn, hm, hk, hb, F⟩ := c.ex
  obtain ⟨t, q, i⟩ := ha
  exact ⟨_, pe_call F hr hg hm hk hb .nil hx q hdb he hpl, im_call i⟩
theorem pass_of {X : Cx} {E : XK} (hs : X.stack = X.env :: X.outer) (hf : X.env.frame = some X.env.locals) (hex : X.ex = []) {E₁ : Value → Shared → Prop}
    (hx : X.xe = fun e s' => wpAny (model X.prog X.w) X.A (leaving X.env e) (fun _ s'' => L2.CX X.prog X.w X.outer X.H_0 X.s_0 E e s'') E₁ s') : Passes (L2.CX X.prog X.w) X E := passes_call (takes_of hs hf hex hx) fun _ _ _ _ h => h
end

/-! ### numbers -/
def oI2 (g : Int → Int → LV) : LV → LV → LH → Out LV := fun x y h => match x, y with
  | .int i, .int j => .ok (g i j) h
  | _, _ => .no
section
variable {C : Cst} {E : XK} {X : Cx}
theorem im_I2 {g : Int → Int → LV} {g' : Int → Int → V} (hg : ∀ ρ i j, RV ρ (g i j) (g' i j)) : Im2 C E (rI0 g') (oI2 g) := fun ρ h H x y u v Q R z1 z2 o => by
  cases z1 with
  | int i =>
    cases z2 with
    | int j => exact ⟨i, j, rfl, rfl, o.here R (hg ρ i j)⟩
    | _ => exact o.elim
  | _ => exact o.elim
def gAdd := oI2 fun i j => .int (i + j)
def gSub := oI2 fun i j => .int (i - j)
def gLt := oI2 fun i j => .bl (decide (i < j))
def gLe := oI2 fun i j => .bl (decide (i ≤ j))
def gGt := oI2 fun i j => .bl (decide (j < i))
def gGe := oI2 fun i j => .bl (decide (j ≤ i))
theorem im_add : Im2 C E (rI0 fun i j => .int (i + j)) gAdd := im_I2 fun _ _ _ => .int _
theorem im_sub : Im2 C E (rI0 fun i j => .int (i - j)) gSub := im_I2 fun _ _ _ => .int _
theorem im_lt : Im2 C E (rI0 fun i j => .bl (decide (i < j))) gLt := im_I2 fun _ _ _ => .bl _
theorem im_le : Im2 C E (rI0 fun i j => .bl (decide (i ≤ j))) gLe := im_I2 fun _ _ _ => .bl _
theorem im_gt : Im2 C E (rI0 fun i j => .bl (decide (j < i))) gGt := im_I2 fun _ _ _ => .bl _
theorem im_ge : Im2 C E (rI0 fun i j => .bl (decide (j ≤ i))) gGe := im_I2 fun _ _ _ => .bl _
/-- -3 -/
def gNeg : LV → LH → Out LV := fun x h => match x with
  | .int i => .ok (.int (-i)) h
  | _ => .no
def eUn (g : LV → LH → Out LV) (f : LS → LH → Out LV) : LS → LH → Out LV := fun l h => (f l h).bind g
theorem e_neg {a : Expr} {f : LS → LH → Out LV} {pos : Pos} (ha : TrE C E X a f) : TrE C E X (.UnaryOp .USub a pos) (eUn gNeg f) := by
  obtain ⟨t, p, i⟩ := ha
  refine ⟨_, pe_un un_neg p, fun ρ h H l σ Q R S o => i ρ h H l σ _ R S (o.bind fun x h1 ρ1 H1 u p1 R1 z o1 => ?_)⟩
  cases z with
  | int i => exact ⟨i, rfl, o1.here R1 (.int _)⟩
  | _ => exact o1.elim
/-- a op b op' c -/
def eChain (g g' : LV → LV → LH → Out LV) (fa fb fc : LS → LH → Out LV) : LS → LH → Out LV := fun l h => (fa l h).bind fun x h1 => (fb l h1).bind fun y h2 => (g x y h2).bind fun z h3 => match z with
  | .bl true => (fc l h3).bind fun w h4 => g' y w h4
  | .bl false => .ok (.bl false) h3
  | _ => .no
theorem im_chain {r r' : R2} {g g' : LV → LV → LH → Out LV} {ta tb tc : TE} {fa fb fc : LS → LH → Out LV} (hg : Im2 C E r g) (hg' : Im2 C E r' g') (ha : ImE C E ta fa) (hb : ImE C E tb fb) (hc : ImE C E tc fc) : ImE C E (tChain r r' ta tb tc) (eChain g g' fa fb fc) := fun ρ h H l σ Q R S o =>
  ha ρ h H l σ _ R S (o.bind fun x h1 ρ1 H1 u p1 R1 z1 o1 => hb ρ1 h1 H1 l σ _ R1 (S.mono p1) (o1.bind fun y h2 ρ2 H2 v p2 R2 z2 o2 =>
    hg ρ2 h2 H2 x y u v _ R2 (z1.mono p2) z2 (o2.bind fun z h3 ρ3 H3 w p3 R3 z3 o3 => by
      cases z3 with
      | bl k =>
        refine ⟨k, rfl, ?_⟩
        cases k with
        | true => rw [if_pos rfl]; exact hc ρ3 h3 H3 l σ _ R3 ((S.mono p1).mono (p2.trans p3)) (o3.bind fun w' h4 ρ4 H4 w2 p4 R4 z4 o4 => hg' ρ4 h4 H4 y w' v w2 Q R4 (z2.mono (p3.trans p4)) z4 o4)
        | false => rw [if_neg Bool.false_ne_true]; exact o3.here R3 (.bl false)
      | _ => exact o3.elim)))
variable {a b c : Expr} {fa fb fc : LS → LH → Out LV} {pos : Pos}
theorem e_chain {op op' : CmpOp} {r r' : R2} {g g' : LV → LV → LH → Out LV} (ho : OpR X (compareOp op) r) (ho' : OpR X (compareOp op') r') (hg : Im2 C E r g) (hg' : Im2 C E r' g') (ha : TrE C E X a fa) (hb : TrE C E X b fb) (hc : TrE C E X c fc)
    (hm : lastMarks [op, op'] [b, c] = false := by with_unfolding_all rfl) : TrE C E X (.Compare a [op, op'] [b, c] pos) (eChain g g' fa fb fc) :=
  let ⟨_, p, i⟩ := ha; let ⟨_, q, j⟩ := hb; let ⟨_, s, k⟩ := hc; ⟨_, pe_chain ho ho' p q s hm, im_chain hg hg' i j k⟩
theorem t_chain {op op' : CmpOp} {r r' : R2} {g g' : LV → LV → LH → Out LV} (ho : OpR X (compareOp op) r) (ho' : OpR X (compareOp op') r') (hg : Im2 C E r g) (hg' : Im2 C E r' g') (ha : TrE C E X a fa) (hb : TrE C E X b fb) (hc : TrE C E X c fc)
    (hm : lastMarks [op, op'] [b, c] = false := by with_unfolding_all rfl) : TrT C E X (.Compare a [op, op'] [b, c] pos) (tOf (eChain g g' fa fb fc)) :=
  let ⟨_, p, i⟩ := ha; let ⟨_, q, j⟩ := hb; let ⟨_, s, k⟩ := hc; ⟨_, pt_chain ho ho' p q s hm, im_tOf (im_chain hg hg' i j k)⟩

/-! ### is None -/
def lvNon : LV → Bool
  | .non => true
  | _ => false
theorem lvNon_eq {ρ : List Addr} {v : LV} {u : V} (z : RV ρ v u) : decide (u = .non) = lvNon v := by cases z <;> rfl
def gIsN : LV → LH → Out LV := fun x h => .ok (.bl (lvNon x)) h
def gNotN : LV → LH → Out LV := fun x h => .ok (.bl (!lvNon x)) h
theorem e_isN {j : Nat} {pos' : Pos} (ha : TrE C E X a fa) : TrE C E X (.Compare a [.Is] [.Constant .none j pos'] pos) (eUn gIsN fa) := by
  obtain ⟨t, p, i⟩ := ha
  refine ⟨_, pe_cmp (pc_isN p), fun ρ h H l σ Q R S o => i ρ h H l σ _ R S (o.bind fun x h1 ρ1 H1 u p1 R1 z o1 => ?_)⟩
  rw [lvNon_eq z]; exact o1.here R1 (.bl _)
theorem e_notN {j : Nat} {pos' : Pos} (ha : TrE C E X a fa) : TrE C E X (.Compare a [.IsNot] [.Constant .none j pos'] pos) (eUn gNotN fa) := by
  obtain ⟨t, p, i⟩ := ha
  refine ⟨_, pe_cmp (pc_notN p), fun ρ h H l σ Q R S o => i ρ h H l σ _ R S (o.bind fun x h1 ρ1 H1 u p1 R1 z o1 => ?_)⟩
  rw [lvNon_eq z]; exact o1.here R1 (.bl _)
theorem im_tB {t : TE} {f : LS → LH → Out LV} (i : ImE C E t f) : ImT C E (tB t) (tOf f) := im_tOf i
theorem t_isN {j : Nat} {pos' : Pos} (ha : TrE C E X a fa) : TrT C E X (.Compare a [.Is] [.Constant .none j pos'] pos) (tOf (eUn gIsN fa)) := by
  obtain ⟨t, p, i⟩ := ha
  refine ⟨_, pt_cmp (pc_isN p), im_tB fun ρ h H l σ Q R S o => i ρ h H l σ _ R S (o.bind fun x h1 ρ1 H1 u p1 R1 z o1 => ?_)⟩
  rw [lvNon_eq z]; exact o1.here R1 (.bl _)
theorem t_notN {j : Nat} {pos' : Pos} (ha : TrE C E X a fa) : TrT C E X (.Compare a [.IsNot] [.Constant .none j pos'] pos) (tOf (eUn gNotN fa)) := by
  obtain ⟨t, p, i⟩ := ha
  refine ⟨_, pt_cmp (pc_notN p), im_tB fun ρ h H l σ Q R S o => i ρ h H l σ _ R S (o.bind fun x h1 ρ1 H1 u p1 R1 z o1 => ?_)⟩
  rw [lvNon_eq z]; exact o1.here R1 (.bl _)

/-! ### built-in functions -/
def eB (g : List LV → LH → Out LV) (fs : LS → LH → Out (List LV)) : LS → LH → Out LV := fun l h => (fs l h).bind g
variable {es : List Expr} {fs : LS → LH → Out (List LV)} {p : Pos}
theorem im_b {r : List V → Hp → VK → Prop} {g : List LV → LH → Out LV} {ta : TA} (hg : ImL C E r g) (i : ImA C E ta fs) : ImE C E (tCB r ta) (eB g fs) := fun ρ h H l σ Q R S o =>
  i ρ h H l σ _ R S (o.bind fun xs h1 ρ1 H1 us p1 R1 z o1 => hg ρ1 h1 H1 xs us Q R1 z o1)
theorem e_callB {x : Str} {id : String} {r : List V → Hp → VK → Prop} {g : List LV → LH → Out LV} (hc : CallR X (.builtin id) r) (hg : ImL C E r g) (hm : X.mg x = none) (hv : bootBuiltins x = some (.builtin id)) (ha : TrA C E X (a :: es) fs) (hgl : Gl X x := by rfl) (hn : x ≠ "__name__" := by decide) (hdb : (x == ("__debug__" : Str)) = false := by decide)
    (he : starEach (a :: es) X.env = (false, eval a X.env) :: starEach es X.env := by rfl) (hpl : (backTo pos (starEach es X.env)).any (·.1) = false := by rfl) : TrE C E X (.Call (.Name x p) (a :: es) [] pos) (eB g fs) :=
  let ⟨_, q, i⟩ := ha; ⟨_, pe_callB hc hgl hm hv q hn hdb he hpl, im_b hg i⟩
theorem e_callTy {x : Str} {T : String} {r : List V → Hp → VK → Prop} {g : List LV → LH → Out LV} (hc : CallR X (.type T) r) (hg : ImL C E r g) (hm : X.mg x = none) (hv : bootBuiltins x = some (.type T)) (ha : TrA C E X (a :: es) fs) (hgl : Gl X x := by rfl) (hn : x ≠ "__name__" := by decide) (hdb : (x == ("__debug__" : Str)) = false := by decide)
    (he : starEach (a :: es) X.env = (false, eval a X.env) :: starEach es X.env := by rfl) (hpl : (backTo pos (starEach es X.env)).any (·.1) = false := by rfl) : TrE C E X (.Call (.Name x p) (a :: es) [] pos) (eB g fs) :=
  let ⟨_, q, i⟩ := ha; ⟨_, pe_callTy hc hgl hm hv q hn hdb he hpl, im_b hg i⟩

/-! isinstance(x, T), T a built-in type: x is no instance -/
inductive Ty where
  | int | bool | str | tuple | list
def Ty.nm : Ty → String
  | .int => "int" | .bool => "bool" | .str => "str" | .tuple => "tuple" | .list => "list"
def isTy (T : Ty) (v : LV) (h : LH) : Option Bool := match v with
  | .non => some false
  | .bl _ => some (match T with | .int => true | .bool => true | _ => false)
  | .int _ => some (match T with | .int => true | _ => false)
  | .str _ => some (match T with | .str => true | _ => false)
  | .ref i => match h.t.get i with
    | some (.lst _) => some (match T with | .list => true | _ => false)
    | some (.tup _) => some (match T with | .tuple => true | _ => false)
    | some (.dic _) => some false
    | some (.frz _) => some false
    | some .scr => some (match T with | .list => true | _ => false)
    | _ => none
def gIsTy (T : Ty) : LV → LH → Out LV := fun x h => match isTy T x h with
  | some b => .ok (.bl b) h
  | none => .no
def tyOf (v : LV) (h : LH) : Option String := match v with
  | .non => some "NoneType"
  | .bl _ => some "bool"
  | .int _ => some "int"
  | .str _ => some "str"
  | .ref i => match h.t.get i with
    | some (.lst _) => some "list"
    | some (.tup _) => some "tuple"
    | some (.dic _) => some "dict"
    | some (.frz _) => some "dict"
    | some .scr => some "list"
    | _ => none
theorem tyOf_ok {ρ : List Addr} {h : LH} {H : Hp} {v : LV} {u : V} {K : PySem.W.Frag} {t : String} (R : Rel C ρ h H) (z : RV ρ v u) (e : tyOf v h = some t) : TyX K H u (.type t) := by
  cases z with
  | non => cases e; exact .base .non
  | bl b => cases e; exact .base (.bl b)
  | int i => cases e; exact .base (.int i)
  | str x => cases e; exact .base (.str _)
  | @ref i a ha =>
    obtain ⟨o, ho, r⟩ := R.obj ha
    unfold tyOf at e
    dsimp only at e
    rw [ho] at e
    cases o with
    | lst xs => cases e; obtain ⟨vs, _, q⟩ := r; exact .base (.lst q)
    | tup xs => cases e; obtain ⟨vs, _, q⟩ := r; exact .base (.tup q)
    | dic xs => cases e; obtain ⟨vs, _, q⟩ := r; exact .base (.dK q)
    | frz xs => cases e; obtain ⟨vs, o, _, q, _⟩ := r; exact .fDict q
    | scr =>
      cases e
      obtain ⟨xs, q | ⟨o, q⟩⟩ := r
      · exact .base (.lst q)
      · exact .base (.frz q)
    | _ => cases e
theorem kit_tab (K : PySem.W.Frag) (T : Ty) : PySem.W.kitOne K (.type "NoneType") (.type T.nm) = some false ∧ PySem.W.kitOne K (.type "bool") (.type T.nm) = some (match T with | .int => true | .bool => true | _ => false) ∧
    PySem.W.kitOne K (.type "int") (.type T.nm) = some (match T with | .int => true | _ => false) ∧ PySem.W.kitOne K (.type "str") (.type T.nm) = some (match T with | .str => true | _ => false) ∧
    PySem.W.kitOne K (.type "list") (.type T.nm) = some (match T with | .list => true | _ => false) ∧ PySem.W.kitOne K (.type "tuple") (.type T.nm) = some (match T with | .tuple => true | _ => false) ∧ PySem.W.kitOne K (.type "dict") (.type T.nm) = some false := by
  cases T <;> exact ⟨kit_ty (by decide +kernel), kit_ty (by decide +kernel), kit_ty (by decide +kernel), kit_ty (by decide +kernel), kit_ty (by decide +kernel), kit_ty (by decide +kernel), kit_ty (by decide +kernel)⟩
theorem isTy_ok {T : Ty} {v : LV} {h : LH} {b : Bool} (K : PySem.W.Frag) (e : isTy T v h = some b) : ∃ t, tyOf v h = some t ∧ PySem.W.kitOne K (.type t) (.type T.nm) = some b := by
  obtain ⟨k1, k2, k3, k4, k5, k6, k7⟩ := kit_tab K T
  unfold isTy at e
  unfold tyOf
  cases v with
  | non => cases e; exact ⟨_, rfl, k1⟩
  | bl _ => cases e; exact ⟨_, rfl, k2⟩
  | int _ => cases e; exact ⟨_, rfl, k3⟩
  | str _ => cases e; exact ⟨_, rfl, k4⟩
  | ref i =>
    dsimp only at e ⊢
    cases q : h.t.get i with
    | none => rw [q] at e; cases e
    | some o =>
      rw [q] at e
      cases o with
      | lst xs => cases e; exact ⟨_, rfl, k5⟩
      | tup xs => cases e; exact ⟨_, rfl, k6⟩
      | dic xs => cases e; exact ⟨_, rfl, k7⟩
      | frz xs => cases e; exact ⟨_, rfl, k7⟩
      | scr => cases e; exact ⟨_, rfl, k5⟩
      | _ => cases e
theorem boot_isi : bootBuiltins "isinstance" = some (.builtin "isinstance") := by decide +kernel
/-- isinstance(e, T) -/
theorem e_isTy (T : Ty) {x : Str} {p2 : Pos} (hm : X.mg "isinstance" = none) (hmT : X.mg x = none) (ha : TrE C E X a fa) (hv : bootBuiltins x = some (.type T.nm)) (hgl : Gl X "isinstance" := by rfl) (hgT : Gl X x := by rfl) (hn : x ≠ "__name__" := by decide) (hd : (x == ("__debug__" : Str)) = false := by decide)
    (he : starEach [a, .Name x p2] X.env = (false, eval a X.env) :: starEach [.Name x p2] X.env := by rfl) (hpl : (backTo pos (starEach [.Name x p2] X.env)).any (·.1) = false := by rfl) :
    TrE C E X (.Call (.Name "isinstance" p) [a, .Name x p2] [] pos) (eUn (gIsTy T) fa) := by
  obtain ⟨t, q, i⟩ := ha
  have hb : PE X (.Name x p2) (tC (.ty T.nm)) := pe_bltn hgT hmT hv rfl hn hd
  refine ⟨_, pe_callB call_isi hgl hm boot_isi (pa_cons q (pa_cons hb pa_nil) he) (by decide) (by decide) he hpl, fun ρ h H l σ Q R S o => i ρ h H l σ _ R S (o.bind fun v h1 ρ1 H1 u p1 R1 z o1 => ?_)⟩
  unfold gIsTy at o1
  cases e : isTy T v h1 with
  | none => rw [e] at o1; exact o1.elim
  | some b =>
    rw [e] at o1
    obtain ⟨t, e1, e2⟩ := isTy_ok X.K e
    exact ⟨u, .ty T.nm, .type t, .type T.nm, b, rfl, .ty _, tyOf_ok R1 z e1, e2, o1.here R1 (.bl b)⟩
/-! len -/
def lenOf (v : LV) (h : LH) : Option Nat := match v with
  | .str x => some x.length
  | .ref i => match h.t.get i with
    | some (.lst xs) => some xs.length
    | some (.tup xs) => some xs.length
    | some (.dic xs) => some xs.length
    | _ => none
  | _ => none
def gLen : List LV → LH → Out LV := fun xs h => match xs with
  | [v] => match lenOf v h with
    | some n => match Nat.blt n 100000 with
      | true => .ok (.int (Int.ofNat n)) h
      | false => .no
    | none => .no
  | _ => .no
def rLenM (K : PySem.W.Frag) : List V → Hp → VK → Prop := fun xs H Q => (∃ x n, xs = [x] ∧ LenV K x H n ∧ Q (.int n) H) ∨ (∃ a kvs, xs = [V.ref a] ∧ H a = some (.dK kvs) ∧ Q (.int kvs.length) H)
theorem call_lenM : CallR X (.builtin "len") (rLenM X.K) := by
  intro pins s σ H xs us Q I r h
  rcases h with h | h
  · exact call_len pins s σ H xs us Q I r h
  · exact call_lenD pins s σ H xs us Q I r h
theorem im_len (K : PySem.W.Frag) : ImL C E (rLenM K) gLen := fun ρ h H x u Q R z o => by
  cases z with
  | nil => exact o.elim
  | cons z t =>
    cases t with
    | cons _ _ => exact o.elim
    | nil =>
      rename_i v y
      unfold gLen at o
      dsimp only at o
      cases e : lenOf v h with
      | none => rw [e] at o; exact o.elim
      | some n =>
        rw [e] at o
        dsimp only at o
        cases q : Nat.blt n 100000 with
        | false => rw [q] at o; exact o.elim
        | true =>
          rw [q] at o
          have hn := blt_lt q
          have hs : n ≤ sizeLine := by rw [sizeLine_eq]; omega
          have fin := o.here R (u := .int (Int.ofNat n)) (.int _)
          cases z with
          | str x =>
            have e : some x.length = some n := e
            cases e
            exact .inl ⟨_, _, rfl, ⟨hs, rfl⟩, fin⟩
          | @ref i a ha =>
            obtain ⟨ob, ho, r⟩ := R.obj ha
            unfold lenOf at e
            dsimp only at e
            rw [ho] at e
            cases ob with
            | lst xs => cases e; obtain ⟨vs, rz, q⟩ := r; exact .inl ⟨_, _, rfl, .inl ⟨vs, SqL.of q, rz.length⟩, fin⟩
            | tup xs => cases e; obtain ⟨vs, rz, q⟩ := r; exact .inl ⟨_, _, rfl, .inr ⟨vs, SqT.of q, rz.length⟩, fin⟩
            | dic xs => cases e; obtain ⟨vs, rz, q⟩ := r; refine .inr ⟨_, _, rfl, q, ?_⟩; rw [← Paired.length rz]; exact fin
            | _ => cases e
          | _ => cases e
theorem e_len (hm : X.mg "len" = none) (ha : TrA C E X (a :: es) fs) (hgl : Gl X "len" := by rfl) (he : starEach (a :: es) X.env = (false, eval a X.env) :: starEach es X.env := by rfl) (hpl : (backTo pos (starEach es X.env)).any (·.1) = false := by rfl) :
    TrE C E X (.Call (.Name "len" p) (a :: es) [] pos) (eB gLen fs) := e_callB call_lenM (im_len X.K) hm PySem.boot_len ha hgl (by decide) (by decide) he hpl
end
end MR
set_option maxHeartbeats 4000000
/-! Mirror 4: sequences and texts. -/
namespace MR
open PySem PySem.Spec PyProof.Rows L2

/-! ### what a value is -/
def seqL (v : LV) (h : LH) : Option (List LV) := match v with
  | .ref i => match h.t.get i with
    | some (.lst xs) => some xs
    | some (.tup xs) => some xs
    | _ => none
  | _ => none
def lstL (v : LV) (h : LH) : Option (List LV) := match v with
  | .ref i => match h.t.get i with
    | some (.lst xs) => some xs
    | _ => none
  | _ => none
def tupL (v : LV) (h : LH) : Option (List LV) := match v with
  | .ref i => match h.t.get i with
    | some (.tup xs) => some xs
    | _ => none
  | _ => none
def idL (v : LV) : Nat := match v with
  | .ref i => i
  | _ => 0
section
variable {C : Cst} {ρ : List Addr} {h : LH} {H : Hp} {v : LV} {u : V} {xs : List LV}
theorem lstL_ok (R : Rel C ρ h H) (z : RV ρ v u) (e : lstL v h = some xs) : ∃ a vs, ρ[idL v]? = some a ∧ v = .ref (idL v) ∧ u = .ref a ∧ RVs ρ xs vs ∧ H a = some (.lst vs) := by
  cases z with
  | @ref i a ha =>
    obtain ⟨o, ho, r⟩ := R.obj ha
    unfold lstL at e
    dsimp only at e
    rw [ho] at e
    cases o with
    | lst ys => cases e; obtain ⟨vs, p, q⟩ := r; exact ⟨a, vs, ha, rfl, rfl, p, q⟩
    | _ => cases e
  | _ => cases e
theorem tupL_ok (R : Rel C ρ h H) (z : RV ρ v u) (e : tupL v h = some xs) : ∃ a vs, ρ[idL v]? = some a ∧ v = .ref (idL v) ∧ u = .ref a ∧ RVs ρ xs vs ∧ H a = some (.tup vs) := by
  cases z with
  | @ref i a ha =>
    obtain ⟨o, ho, r⟩ := R.obj ha
    unfold tupL at e
    dsimp only at e
    rw [ho] at e
    cases o with
    | tup ys => cases e; obtain ⟨vs, p, q⟩ := r; exact ⟨a, vs, ha, rfl, rfl, p, q⟩
    | _ => cases e
  | _ => cases e
theorem seqL_ok (R : Rel C ρ h H) (z : RV ρ v u) (e : seqL v h = some xs) : ∃ a vs, u = .ref a ∧ RVs ρ xs vs ∧ (H a = some (.lst vs) ∨ H a = some (.tup vs)) := by
  cases z with
  | @ref i a ha =>
    obtain ⟨o, ho, r⟩ := R.obj ha
    unfold seqL at e
    dsimp only at e
    rw [ho] at e
    cases o with
    | lst ys => cases e; obtain ⟨vs, p, q⟩ := r; exact ⟨a, vs, rfl, p, .inl q⟩
    | tup ys => cases e; obtain ⟨vs, p, q⟩ := r; exact ⟨a, vs, rfl, p, .inr q⟩
    | _ => cases e
  | _ => cases e
end
def LH.upd {α : Type} (h : LH) (i : Nat) (o : LO) (k : LH → Out α) : Out α := match Nat.blt h.n 500000 with
  | true => k ⟨h.n, h.t.put 20 i o⟩
  | false => .no
theorem OkG.upd {C : Cst} {E : XK} {α β : Type} {S : List Addr → α → β → Prop} {ρ : List Addr} {h : LH} {H : Hp} {i : Nat} {a : Addr} {o : LO} {k : LH → Out α} {Q : β → Hp → Prop} (x : OkG C E S ρ (h.upd i o k) Q) (R : Rel C ρ h H) (e : ρ[i]? = some a) {u u' : HO} (ha : H a = some u) (tu : Thing u) (r : RO C ρ (upd H a u') a o) :
    Rel C ρ ⟨h.n, h.t.put 20 i o⟩ (upd H a u') ∧ OkG C E S ρ (k ⟨h.n, h.t.put 20 i o⟩) Q := by
  unfold LH.upd at x
  cases e1 : Nat.blt h.n 500000 with
  | false => rw [e1] at x; exact x.elim
  | true =>
    rw [e1] at x
    exact ⟨R.upd e (by have := blt_lt e1; omega) ha tu r, x⟩

/-! ### a[i] -/
def oV (o : Option LV) (h : LH) : Out LV := match o with
  | some v => .ok v h
  | none => .no
def gIx : LV → LV → LH → Out LV := fun x y h => match y with
  | .int i => match x with
    | .str z => match Nat.blt z.length 100000 with
      | true => match atI z i with
        | some c => .ok (.str [c]) h
        | none => .no
      | false => .no
    | _ => match seqL x h with
      | some xs => oV (atI xs i) h
      | none => .no
  | _ => .no
section
variable {C : Cst} {E : XK} {X : Cx} {pos p p2 : Pos} {a b e : Expr} {es : List Expr} {fa fb fe : LS → LH → Out LV} {fs : LS → LH → Out (List LV)}
theorem atI_R {ρ : List Addr} {xs : List LV} {vs : List V} {i : Int} {v : LV} (z : RVs ρ xs vs) (e : atI xs i = some v) : ∃ u, atI vs i = some u ∧ RV ρ v u := by
  unfold atI at e ⊢
  rw [← z.length]
  cases q : ixN xs.length i with
  | none => rw [q] at e; cases e
  | some j =>
    rw [q] at e
    have e : xs[j]? = some v := e
    have key : ∀ {xs : List LV} {vs : List V} {j : Nat}, RVs ρ xs vs → xs[j]? = some v → ∃ u, vs[j]? = some u ∧ RV ρ v u := by
      intro xs vs j z
      induction z generalizing j with
      | nil => intro e; cases e
      | cons r t ih =>
        cases j with
        | zero => intro e; cases e; exact ⟨_, rfl, r⟩
        | succ j => exact fun e => ih e
    exact key z e
theorem im_ix : Im2 C E (rIx X.K) gIx := fun ρ h H x y u v Q R z1 z2 o => by
  cases z2 with
  | int i =>
    have seq : ∀ {x : LV} {u : V}, RV ρ x u → OkG C E RV ρ (match seqL x h with
      | some xs => oV (atI xs i) h
      | none => .no) Q → rIx X.K u (.int i) H Q := by
      intro x u z o
      cases e : seqL x h with
      | none => rw [e] at o; exact o.elim
      | some xs =>
        rw [e] at o
        dsimp only at o
        obtain ⟨a, vs, rfl, zs, hh⟩ := seqL_ok R z e
        cases q : atI xs i with
        | none => rw [q] at o; exact o.elim
        | some w =>
          rw [q] at o
          obtain ⟨u', e', z'⟩ := atI_R zs q
          have fin := o.here R z'
          rcases hh with hh | hh
          · exact .inl ⟨a, vs, i, u', rfl, rfl, SqL.of hh, e', fin⟩
          · exact .inr (.inl ⟨a, vs, i, u', rfl, rfl, SqT.of hh, e', fin⟩)
    cases z1 with
    | str z =>
      unfold gIx at o
      dsimp only at o
      cases e : Nat.blt z.length 100000 with
      | false => rw [e] at o; exact o.elim
      | true =>
        rw [e] at o
        dsimp only at o
        cases q : atI z i with
        | none => rw [q] at o; exact o.elim
        | some c =>
          rw [q] at o
          have hn := blt_lt e
          exact .inr (.inr ⟨⟨⟨z⟩⟩, i, c, rfl, rfl, (by show z.length ≤ sizeLine; rw [sizeLine_eq]; omega), q, o.here R (.str [c])⟩)
    | ref hr => exact seq (.ref hr) o
    | non => exact seq .non o
    | bl b => exact seq (.bl b) o
    | int j => exact seq (.int j) o
  | _ => exact o.elim
theorem e_ix (ha : TrE C E X a fa) (hb : TrE C E X b fb) (hs : PlainIx b := by exact fun _ _ => rfl) : TrE C E X (.Subscript a b pos) (eOp gIx fa fb) :=
  let ⟨_, p, i⟩ := ha; let ⟨_, q, j⟩ := hb; ⟨_, pe_ix ix_seq p q hs, im_op im_ix i j⟩

/-! ### slices -/
abbrev FO := LS → LH → Out (Option Int)
def ImO (C : Cst) (E : XK) (t : TO) (f : FO) : Prop := ∀ (ρ : List Addr) (h : LH) (H : Hp) (l : LS) (σ : L2.St) (Q : Option Int → Hp → Prop), Rel C ρ h H → RSl ρ l σ → OkG C E (fun _ a b => a = b) ρ (f l h) Q → t σ H Q
def TrO (C : Cst) (E : XK) (X : Cx) (e : Option Expr) (f : FO) : Prop := ∃ t, PO X e t ∧ ImO C E t f
def oNone : FO := fun _ h => .ok none h
def oInt (v : LV) (h : LH) : Out (Option Int) := match v with
  | .int i => .ok (some i) h
  | _ => .no
def oSome (f : LS → LH → Out LV) : FO := fun l h => (f l h).bind oInt
theorem o_none : TrO C E X none oNone := ⟨_, po_none, fun ρ h H l σ Q R S o => o.here R rfl⟩
theorem o_some (ha : TrE C E X a fa) : TrO C E X (some a) (oSome fa) := by
  obtain ⟨t, p, i⟩ := ha
  refine ⟨_, po_some p, fun ρ h H l σ Q R S o => i ρ h H l σ _ R S (o.bind fun v h1 ρ1 H1 u p1 R1 z o1 => ?_)⟩
  cases z with
  | int i => exact ⟨i, rfl, o1.here R1 rfl⟩
  | _ => exact o1.elim
def cutL {α : Type} (xs : List α) (lo hi : Option Int) : List α := (xs.drop (HT.sIx xs.length 0 lo)).take (HT.sIx xs.length xs.length hi - HT.sIx xs.length 0 lo)
def gSl (x : LV) (lo hi : Option Int) (h : LH) : Out LV := match x with
  | .str z => match Nat.blt z.length 100000 with
    | true => .ok (.str (cutL z lo hi)) h
    | false => .no
  | .ref i => match h.t.get i with
    | some (.lst xs) => h.new (.lst (cutL xs lo hi)) fun n h2 => .ok (.ref n) h2
    | some (.tup xs) => match (Nat.beq (HT.sIx xs.length 0 lo) 0 && Nat.beq (HT.sIx xs.length xs.length hi) xs.length) with
      | true => .ok x h
      | false => h.new (.tup (cutL xs lo hi)) fun n h2 => .ok (.ref n) h2
    | _ => .no
  | _ => .no
def eSl (f : LS → LH → Out LV) (lo hi : FO) : LS → LH → Out LV := fun l h => (f l h).bind fun x h1 => (lo l h1).bind fun a h2 => (hi l h2).bind fun b h3 => gSl x a b h3
theorem RVs.append {ρ : List Addr} {xs ys : List LV} {vs us : List V} (z : RVs ρ xs vs) (w : RVs ρ ys us) : RVs ρ (xs ++ ys) (vs ++ us) := by
  induction z with
  | nil => exact w
  | cons r t ih => exact .cons r ih
theorem RVs.drop {ρ : List Addr} {xs : List LV} {vs : List V} (z : RVs ρ xs vs) : ∀ n, RVs ρ (xs.drop n) (vs.drop n) := by
  induction z with
  | nil => intro n; simp only [List.drop_nil]; exact .nil
  | cons r t ih => intro n; cases n with
    | zero => exact .cons r t
    | succ n => exact ih n
theorem RVs.take {ρ : List Addr} {xs : List LV} {vs : List V} (z : RVs ρ xs vs) : ∀ n, RVs ρ (xs.take n) (vs.take n) := by
  induction z with
  | nil => intro n; simp only [List.take_nil]; exact .nil
  | cons r t ih => intro n; cases n with
    | zero => exact .nil
    | succ n => exact .cons r (ih n)
theorem RVs.cut {ρ : List Addr} {xs : List LV} {vs : List V} (z : RVs ρ xs vs) (lo hi : Option Int) : RVs ρ (cutL xs lo hi) (cutV vs lo hi) := by
  unfold cutL cutV
  rw [← z.length]
  exact (z.drop _).take _
def rSlM (K : PySem.W.Frag) : V → Option Int → Option Int → Hp → VK → Prop := fun x lo hi H Q => rSlA K x lo hi H Q ∨ rSlL K x lo hi H Q ∨ rSlS x lo hi H Q
theorem sl_m : SlR X (rSlM X.K) := sl_tupA.or (sl_list.or sl_str)
theorem e_slice {lo hi : Option Expr} {fl fh : FO} (ha : TrE C E X a fa) (hl : TrO C E X lo fl) (hu : TrO C E X hi fh) : TrE C E X (.Subscript a (.Slice lo hi none p2) pos) (eSl fa fl fh) := by
  obtain ⟨t, p, i⟩ := ha
  obtain ⟨t1, p1, i1⟩ := hl
  obtain ⟨t2, p2, i2⟩ := hu
  refine ⟨_, pe_slice sl_m p p1 p2, fun ρ h H l σ Q R S o => i ρ h H l σ _ R S (o.bind fun x h1 ρ1 H1 u p1 R1 z o1 => i1 ρ1 h1 H1 l σ _ R1 (S.mono p1) (OkG.bind (R := fun _ a b => a = b) o1 fun lo h2 ρ2 H2 lo' p2 R2 z2 o2 =>
    i2 ρ2 h2 H2 l σ _ R2 ((S.mono p1).mono p2) (OkG.bind (R := fun _ a b => a = b) o2 fun hi h3 ρ3 H3 hi' p3 R3 z3 o3 => ?_)))⟩
  subst z2; subst z3
  replace z := z.mono (p2.trans p3)
  unfold gSl at o3
  cases z with
  | str z =>
    dsimp only at o3
    cases e : Nat.blt z.length 100000 with
    | false => rw [e] at o3; exact o3.elim
    | true =>
      rw [e] at o3
      have hn := blt_lt e
      exact .inr (.inr ⟨⟨⟨z⟩⟩, rfl, (by show z.length ≤ sizeLine; rw [sizeLine_eq]; omega), o3.here R3 (.str _)⟩)
  | @ref n a ha =>
    obtain ⟨ob, ho, r⟩ := R3.obj ha
    dsimp only at o3
    rw [ho] at o3
    cases ob with
    | lst xs =>
      obtain ⟨vs, zs, q⟩ := r
      dsimp only at o3
      refine .inr (.inl ⟨a, vs, rfl, SqL.of q, fun k hk => ?_⟩)
      obtain ⟨R4, e4, p4, o4⟩ := OkG.new o3 R3 hk (u := .lst (cutV vs lo hi)) ⟨_, (zs.cut lo hi).mono (pre.app _ _), upd_same⟩
      exact o4 _ _ _ p4 R4 (.ref e4)
    | tup xs =>
      obtain ⟨vs, zs, q⟩ := r
      dsimp only at o3
      have hl := zs.length
      cases e : (Nat.beq (HT.sIx xs.length 0 lo) 0 && Nat.beq (HT.sIx xs.length xs.length hi) xs.length) with
      | true =>
        rw [e] at o3
        rw [Bool.and_eq_true] at e
        refine .inl ⟨a, vs, rfl, SqT.of q, fun _ => o3.here R3 (.ref ha), fun hh => absurd ⟨?_, ?_⟩ hh⟩
        · rw [← hl]; exact Nat.eq_of_beq_eq_true e.1
        · rw [← hl]; exact Nat.eq_of_beq_eq_true e.2
      | false =>
        rw [e] at o3
        refine .inl ⟨a, vs, rfl, SqT.of q, fun hh => ?_, fun _ k hk => ?_⟩
        · rw [← hl] at hh
          rw [hh.1, hh.2] at e
          simp [Nat.beq_refl] at e
        · obtain ⟨R4, e4, p4, o4⟩ := OkG.new o3 R3 hk (u := .tup (cutV vs lo hi)) ⟨_, (zs.cut lo hi).mono (pre.app _ _), upd_same⟩
          exact o4 _ _ _ p4 R4 (.ref e4)
    | _ => exact o3.elim
  | _ => exact o3.elim

/-! ### *e -/
def aStar (f : LS → LH → Out LV) (g : LS → LH → Out (List LV)) : LS → LH → Out (List LV) := fun l h => (f l h).bind fun x h1 => match seqL x h1 with
  | some xs => (g l h1).bind fun ys h2 => .ok (xs ++ ys) h2
  | none => .no
theorem a_star (ha : TrE C E X e fe) (hr : TrA C E X es fs) (hs : starEach (.Starred e p :: es) X.env = (true, eval e X.env) :: starEach es X.env := by rfl) : TrA C E X (.Starred e p :: es) (aStar fe fs) := by
  obtain ⟨t, p, i⟩ := ha
  obtain ⟨t', q, j⟩ := hr
  refine ⟨_, StX.pa_star p q hs, fun ρ h H l σ Q R S o => i ρ h H l σ _ R S (o.bind fun v h1 ρ1 H1 u p1 R1 z o1 => ?_)⟩
  cases e : seqL v h1 with
  | none => rw [e] at o1; exact o1.elim
  | some xs =>
    rw [e] at o1
    obtain ⟨a, vs, rfl, zs, hh⟩ := seqL_ok R1 z e
    refine ⟨a, vs, rfl, hh.symm.imp SqT.of SqL.of, j ρ1 h1 H1 l σ _ R1 (S.mono p1) (o1.bind fun ys h2 ρ2 H2 us p2 R2 z2 o2 => o2.here R2 ?_)⟩
    exact RVs.append (zs.mono p2) z2
end
end MR
set_option maxHeartbeats 4000000
/-! Mirror 5: equality, membership, built-in calls and methods of sequences and texts. -/
namespace MR
open PySem PySem.Spec PyProof.Rows L2

/-! ### == at any depth -/
def lsOf (s : Str) : List Nat := s.cps.toList
mutual
def dp (h : LH) : Nat → LV → Option PyData
  | 0, _ => none
  | n + 1, v => match v with
    | .non => some .none
    | .bl b => some (.bool b)
    | .int i => some (.int i)
    | .str x => some (.str (sOf x))
    | .ref i => match h.t.get i with
      | some (.lst xs) => (dpA h n xs).map .list
      | some (.tup xs) => (dpA h n xs).map .tuple
      | _ => none
def dpA (h : LH) : Nat → List LV → Option (List PyData)
  | 0, _ => none
  | _ + 1, [] => some []
  | n + 1, x :: xs => match dp h n x with
    | some d => match dpA h n xs with
      | some ds => some (d :: ds)
      | none => none
    | none => none
end
section
variable {C : Cst} {E : XK} {X : Cx} {ρ : List Addr} {h : LH} {H : Hp}
theorem dp_ok (K : PySem.W.Frag) (R : Rel C ρ h H) : ∀ n, (∀ v u d, RV ρ v u → dp h n v = some d → Dp K H u d) ∧ (∀ vs us ds, RVs ρ vs us → dpA h n vs = some ds → DpAll K H us ds)
  | 0 => ⟨fun v u d z e => (by rw [dp] at e; cases e), fun v u d z e => (by rw [dpA] at e; cases e)⟩
  | n + 1 => by
    obtain ⟨ih1, ih2⟩ := dp_ok K R n
    refine ⟨fun v u d z e => ?_, fun vs us ds z e => ?_⟩
    · cases z with
      | non => rw [dp] at e; cases e; exact .non
      | bl b => rw [dp] at e; cases e; exact .bl b
      | int i => rw [dp] at e; cases e; exact .int i
      | str x => rw [dp] at e; cases e; exact .str _
      | @ref i a ha =>
        obtain ⟨o, ho, r⟩ := R.obj ha
        rw [dp] at e
        rw [ho] at e
        cases o with
        | lst ys =>
          obtain ⟨vs, p, q⟩ := r
          dsimp only at e
          cases w : dpA h n ys with
          | none => rw [w] at e; cases e
          | some ds => rw [w] at e; cases e; exact .lst (SqL.of q) (ih2 _ _ _ p w)
        | tup ys =>
          obtain ⟨vs, p, q⟩ := r
          dsimp only at e
          cases w : dpA h n ys with
          | none => rw [w] at e; cases e
          | some ds => rw [w] at e; cases e; exact .tup (SqT.of q) (ih2 _ _ _ p w)
        | _ => cases e
    · cases z with
      | nil => rw [dpA] at e; cases e; exact .nil
      | cons r t =>
        rw [dpA] at e
        split at e
        · rename_i d w
          split at e
          · rename_i ds w'
            cases e
            exact .cons (ih1 _ _ _ r w) (ih2 _ _ _ t w')
          · cases e
        · cases e
def eqL (x y : LV) (h : LH) : Option Bool := match dp h 300 x with
  | some d => match dp h 300 y with
    | some e => match SeqAt.shaped d && SeqAt.shaped e with
      | true => some (PyData.eqv d e)
      | false => none
    | none => none
  | none => none
def oB (o : Option Bool) (h : LH) : Out LV := match o with
  | some b => .ok (.bl b) h
  | none => .no
def gEq : LV → LV → LH → Out LV := fun x y h => oB (eqL x y h) h
def gNe : LV → LV → LH → Out LV := fun x y h => oB ((eqL x y h).map not) h
theorem eqL_ok {x y : LV} {u v : V} {b : Bool} (K : PySem.W.Frag) (R : Rel C ρ h H) (z1 : RV ρ x u) (z2 : RV ρ y v) (q : eqL x y h = some b) : ∃ d e, Dp K H u d ∧ Dp K H v e ∧ SeqAt.shaped d = true ∧ SeqAt.shaped e = true ∧ PyData.eqv d e = b := by
  unfold eqL at q
  cases e1 : dp h 300 x with
  | none => rw [e1] at q; cases q
  | some d =>
    rw [e1] at q
    dsimp only at q
    cases e2 : dp h 300 y with
    | none => rw [e2] at q; cases q
    | some e =>
      rw [e2] at q
      dsimp only at q
      cases e3 : SeqAt.shaped d && SeqAt.shaped e with
      | false => rw [e3] at q; cases q
      | true =>
        rw [e3] at q
        rw [Bool.and_eq_true] at e3
        exact ⟨d, e, (dp_ok K R 300).1 _ _ _ z1 e1, (dp_ok K R 300).1 _ _ _ z2 e2, e3.1, e3.2, Option.some.inj q⟩
theorem im_eq (K : PySem.W.Frag) : Im2 C E (rEqD K) gEq := fun ρ h H x y u v Q R z1 z2 o => by
  unfold gEq at o
  cases q : eqL x y h with
  | none => rw [q] at o; exact o.elim
  | some b =>
    rw [q] at o
    obtain ⟨d, e, h1, h2, h3, h4, rfl⟩ := eqL_ok K R z1 z2 q
    exact ⟨d, e, h1, h2, h3, h4, o.here R (.bl _)⟩
theorem im_ne (K : PySem.W.Frag) : Im2 C E (rNeD K) gNe := fun ρ h H x y u v Q R z1 z2 o => by
  unfold gNe at o
  cases q : eqL x y h with
  | none => rw [q] at o; exact o.elim
  | some b =>
    rw [q] at o
    obtain ⟨d, e, h1, h2, h3, h4, rfl⟩ := eqL_ok K R z1 z2 q
    exact ⟨d, e, h1, h2, h3, h4, o.here R (.bl _)⟩
/-! in, not in: a list or a tuple of plain items; a sign in a text -/
def flatL : LV → Bool
  | .ref _ => false
  | _ => true
theorem flat_ok {v : LV} {u : V} (z : RV ρ v u) (f : flatL v = true) : flatV u = true := by
  cases z with
  | ref _ => cases f
  | _ => rfl
def vOf : LV → V
  | .non => .non
  | .bl b => .bl b
  | .int i => .int i
  | .str x => .str (sOf x)
  | .ref _ => .non
theorem vOf_eq {v : LV} {u : V} (z : RV ρ v u) (f : flatL v = true) : vOf v = u := by
  cases z with
  | ref _ => cases f
  | _ => rfl
theorem flats_ok {vs : List LV} {us : List V} (z : RVs ρ vs us) (f : vs.all flatL = true) : us.all flatV = true ∧ vs.map vOf = us := by
  induction z with
  | nil => exact ⟨rfl, rfl⟩
  | cons r t ih =>
    rw [List.all_cons, Bool.and_eq_true] at f
    obtain ⟨a, b⟩ := ih f.2
    exact ⟨by rw [List.all_cons, flat_ok r f.1, a]; rfl, by rw [List.map_cons, vOf_eq r f.1, b]⟩
def inL (x : LV) (xs : List LV) : Option Bool := match flatL x && xs.all flatL with
  | true => some (inV (vOf x) (xs.map vOf))
  | false => none
def gIn (neg : Bool) : LV → LV → LH → Out LV := fun x y h => match y with
  | .str z => match x with
    | .str [c] => .ok (.bl (if neg then !decide (c ∈ z) else decide (c ∈ z))) h
    | _ => .no
  | _ => match seqL y h with
    | some xs => match inL x xs with
      | some b => .ok (.bl (if neg then !b else b)) h
      | none => .no
    | none => .no
def rInM (K : PySem.W.Frag) (neg : Bool) : R2 := fun x y H Q => rIn K neg x y H Q ∨ ∃ (c : Nat) (z : Str), x = .str ⟨#[c]⟩ ∧ y = .str z ∧ Q (.bl (if neg then !decide (c ∈ z.cps.toList) else decide (c ∈ z.cps.toList))) H
theorem op_inM : OpR X (compareOp .In) (rInM X.K false) := by
  intro pins s σ H x y v u Q I rx ry h
  rcases h with h | h
  · exact op_in_seq pins s σ H x y v u Q I rx ry h
  · exact op_in_sign pins s σ H x y v u Q I rx ry h
theorem op_notInM : OpR X (compareOp .NotIn) (rInM X.K true) := by
  intro pins s σ H x y v u Q I rx ry h
  rcases h with h | h
  · exact op_notIn_seq pins s σ H x y v u Q I rx ry h
  · exact op_notIn_sign pins s σ H x y v u Q I rx ry h
theorem im_in (K : PySem.W.Frag) (neg : Bool) : Im2 C E (rInM K neg) (gIn neg) := fun ρ h H x y u v Q R z1 z2 o => by
  have seq : ∀ {y : LV} {v : V}, RV ρ y v → OkG C E RV ρ (match seqL y h with
    | some xs => match inL x xs with
      | some b => Out.ok (.bl (if neg then !b else b)) h
      | none => .no
    | none => .no) Q → rInM K neg u v H Q := by
    intro y v z o
    cases e : seqL y h with
    | none => rw [e] at o; exact o.elim
    | some xs =>
      rw [e] at o
      dsimp only at o
      obtain ⟨a, vs, rfl, zs, hh⟩ := seqL_ok R z e
      unfold inL at o
      cases q : flatL x && xs.all flatL with
      | false => rw [q] at o; exact o.elim
      | true =>
        rw [q] at o
        rw [Bool.and_eq_true] at q
        obtain ⟨f1, f2⟩ := flats_ok zs q.2
        have e1 := vOf_eq z1 q.1
        rw [e1, f2] at o
        exact .inl ⟨a, vs, rfl, hh.imp SqL.of SqT.of, flat_ok z1 q.1, f1, o.here R (.bl _)⟩
  cases z2 with
  | str z =>
    unfold gIn at o
    cases z1 with
    | str x =>
      match x, o with
      | [c], o => exact .inr ⟨c, _, rfl, rfl, o.here R (.bl _)⟩
      | [], o => exact o.elim
      | _ :: _ :: _, o => exact o.elim
    | _ => exact o.elim
  | non => exact seq .non o
  | bl b => exact seq (.bl b) o
  | int b => exact seq (.int b) o
  | ref b => exact seq (.ref b) o
/-! text + text, list * int -/
def gCat : LV → LV → LH → Out LV := fun x y h => match x, y with
  | .str a, .str b => match Nat.blt (a.length + b.length) 100000 with
    | true => .ok (.str (a ++ b)) h
    | false => .no
  | _, _ => .no
theorem im_cat : Im2 C E (fun x y H Q => ∃ i j, x = .str i ∧ y = .str j ∧ i.length + j.length ≤ sizeLine ∧ Q (.str (i ++ j)) H) gCat := fun ρ h H x y u v Q R z1 z2 o => by
  cases z1 with
  | str a =>
    cases z2 with
    | str b =>
      unfold gCat at o
      dsimp only at o
      cases e : Nat.blt (a.length + b.length) 100000 with
      | false => rw [e] at o; exact o.elim
      | true =>
        rw [e] at o
        have hn := blt_lt e
        refine ⟨_, _, rfl, rfl, (by show a.length + b.length ≤ sizeLine; rw [sizeLine_eq]; omega), ?_⟩
        have e2 : ((⟨⟨a⟩⟩ : Str) ++ ⟨⟨b⟩⟩ : Str) = ⟨⟨a ++ b⟩⟩ := by
          show (⟨_⟩ : Str) = _
          congr 1
          simp
        rw [e2]
        exact o.here R (.str _)
    | _ => exact o.elim
  | _ => exact o.elim
def gRep : LV → LV → LH → Out LV := fun x y h => match y with
  | .int k => match lstL x h with
    | some xs => match decide (-1000 ≤ k ∧ k < 1000) && Nat.blt (xs.length * k.toNat) 100000 with
      | true => h.new (.lst (List.replicate k.toNat xs).flatten) fun n h2 => .ok (.ref n) h2
      | false => .no
    | none => .no
  | _ => .no
theorem RVs.rep {ρ : List Addr} {xs : List LV} {vs : List V} (z : RVs ρ xs vs) : ∀ k : Nat, RVs ρ (List.replicate k xs).flatten (List.replicate k vs).flatten
  | 0 => .nil
  | k + 1 => by
    rw [List.replicate_succ, List.replicate_succ, List.flatten_cons, List.flatten_cons]
    exact z.append (z.rep k)
theorem im_rep : Im2 C E rRep gRep := fun ρ h H x y u v Q R z1 z2 o => by
  cases z2 with
  | int k =>
    unfold gRep at o
    dsimp only at o
    cases e : lstL x h with
    | none => rw [e] at o; exact o.elim
    | some xs =>
      rw [e] at o
      dsimp only at o
      obtain ⟨a, vs, _, _, rfl, zs, hh⟩ := lstL_ok R z1 e
      cases q : decide (-1000 ≤ k ∧ k < 1000) && Nat.blt (xs.length * k.toNat) 100000 with
      | false => rw [q] at o; exact o.elim
      | true =>
        rw [q] at o
        rw [Bool.and_eq_true] at q
        have q1 := of_decide_eq_true q.1
        have q2 := blt_lt q.2
        rw [zs.length] at q2
        refine ⟨a, k, vs, rfl, rfl, hh, by omega, by omega, (by rw [sizeLine_eq]; omega), fun p n => ?_⟩
        obtain ⟨R4, e4, p4, o4⟩ := OkG.new o R n (u := .lst (List.replicate k.toNat vs).flatten) ⟨_, (zs.rep k.toNat).mono (pre.app _ _), upd_same⟩
        exact o4 _ _ _ p4 R4 (.ref e4)
  | _ => exact o.elim
/-! all, any, list, tuple, min, str, int -/
def boolsL : List LV → Option (List Bool)
  | [] => some []
  | .bl b :: r => match boolsL r with
    | some bs => some (b :: bs)
    | none => none
  | _ :: _ => none
theorem bools_ok : ∀ {xs : List LV} {vs : List V} {bs : List Bool}, RVs ρ xs vs → boolsL xs = some bs → vs = bs.map V.bl
  | _, _, _, .nil, e => by cases e; rfl
  | _, _, _, .cons r t, e => by
    cases r with
    | bl b =>
      rename_i xs vs
      have e : (match boolsL xs with
        | some bs => some (b :: bs)
        | none => none) = some _ := e
      cases q : boolsL xs with
      | none => rw [q] at e; cases e
      | some cs => rw [q] at e; cases e; rw [List.map_cons, bools_ok t q]
    | _ => cases e
def gQ (all : Bool) : List LV → LH → Out LV := fun xs h => match xs with
  | [x] => match lstL x h with
    | some ys => match boolsL ys with
      | some bs => .ok (.bl (if all then bs.all id else bs.any id)) h
      | none => .no
    | none => .no
  | _ => .no
theorem RVs.one_ {x : LV} {us : List V} (z : RVs ρ [x] us) : ∃ u, us = [u] ∧ RV ρ x u := by
  cases z with
  | cons r t => cases t; exact ⟨_, rfl, r⟩
theorem RVs.two_ {x y : LV} {us : List V} (z : RVs ρ [x, y] us) : ∃ u v, us = [u, v] ∧ RV ρ x u ∧ RV ρ y v := by
  cases z with
  | cons r t => cases t with
    | cons r2 t => cases t; exact ⟨_, _, rfl, r, r2⟩
theorem q_ok {all : Bool} {xs : List LV} {us : List V} {Q : VK} {K : PySem.W.Frag} (R : Rel C ρ h H) (z : RVs ρ xs us) (o : OkG C E RV ρ (gQ all xs h) Q) : ∃ (a : Addr) (bs : List Bool), us = [V.ref a] ∧ SqL K H a (bs.map V.bl) ∧ Q (.bl (if all then bs.all id else bs.any id)) H := by
  match xs, z, o with
  | [], _, o => exact o.elim
  | _ :: _ :: _, _, o => exact o.elim
  | [x], z, o =>
    obtain ⟨u, rfl, z0⟩ := z.one_
    unfold gQ at o
    dsimp only at o
    cases e : lstL x h with
    | none => rw [e] at o; exact o.elim
    | some ys =>
      rw [e] at o
      dsimp only at o
      obtain ⟨a, vs, _, _, rfl, zs, hh⟩ := lstL_ok R z0 e
      cases q : boolsL ys with
      | none => rw [q] at o; exact o.elim
      | some bs =>
        rw [q] at o
        have := bools_ok zs q
        subst this
        exact ⟨a, bs, rfl, SqL.of hh, o.here R (.bl _)⟩
theorem im_all (K : PySem.W.Frag) : ImL C E (rAll K) (gQ true) := fun ρ h H x u Q R z o => q_ok R z o
theorem im_any (K : PySem.W.Frag) : ImL C E (rAny K) (gQ false) := fun ρ h H x u Q R z o => q_ok R z o
def gList : List LV → LH → Out LV := fun xs h => match xs with
  | [x] => match seqL x h with
    | some ys => h.new (.lst ys) fun n h2 => .ok (.ref n) h2
    | none => .no
  | _ => .no
abbrev rListM (K : PySem.W.Frag) : List V → Hp → VK → Prop := fun xs H Q => ∃ p ys, xs = [.ref p] ∧ (SqL K H p ys ∨ SqT K H p ys) ∧ ∀ l, H l = none → Q (.ref l) (upd H l (.lst ys))
theorem im_list (K : PySem.W.Frag) : ImL C E (rListM K) gList := fun ρ h H x u Q R z o => by
  match x, z, o with
  | [], _, o => exact o.elim
  | _ :: _ :: _, _, o => exact o.elim
  | [x], z, o =>
    obtain ⟨u, rfl, z0⟩ := z.one_
    unfold gList at o
    dsimp only at o
    cases e : seqL x h with
    | none => rw [e] at o; exact o.elim
    | some ys =>
      rw [e] at o
      dsimp only at o
      obtain ⟨a, vs, rfl, zs, hh⟩ := seqL_ok R z0 e
      refine ⟨a, vs, rfl, hh.imp SqL.of SqT.of, fun l n => ?_⟩
      obtain ⟨R4, e4, p4, o4⟩ := OkG.new o R n (u := .lst vs) ⟨_, zs.mono (pre.app _ _), upd_same⟩
      exact o4 _ _ _ p4 R4 (.ref e4)
def gTuple : List LV → LH → Out LV := fun xs h => match xs with
  | [x] => match x with
    | .ref i => match h.t.get i with
      | some (.lst ys) => h.new (.tup ys) fun n h2 => .ok (.ref n) h2
      | some (.tup ys) => .ok x h
      | _ => .no
    | _ => .no
  | _ => .no
abbrev rTupleM (K : PySem.W.Frag) : List V → Hp → VK → Prop := fun xs H Q => ∃ p ys, xs = [.ref p] ∧ ((SqL K H p ys ∧ ∀ l, H l = none → Q (.ref l) (upd H l (.tup ys))) ∨ (SqT K H p ys ∧ Q (.ref p) H))
theorem im_tuple (K : PySem.W.Frag) : ImL C E (rTupleM K) gTuple := fun ρ h H x u Q R z o => by
  match x, z, o with
  | [], _, o => exact o.elim
  | _ :: _ :: _, _, o => exact o.elim
  | [x], z, o =>
    obtain ⟨u, rfl, z0⟩ := z.one_
    unfold gTuple at o
    cases z0 with
    | @ref i a ha =>
      obtain ⟨ob, ho, r⟩ := R.obj ha
      dsimp only at o
      rw [ho] at o
      cases ob with
      | lst ys =>
        obtain ⟨vs, zs, q⟩ := r
        refine ⟨a, vs, rfl, .inl ⟨SqL.of q, fun l n => ?_⟩⟩
        obtain ⟨R4, e4, p4, o4⟩ := OkG.new o R n (u := .tup vs) ⟨_, zs.mono (pre.app _ _), upd_same⟩
        exact o4 _ _ _ p4 R4 (.ref e4)
      | tup ys =>
        obtain ⟨vs, zs, q⟩ := r
        exact ⟨a, vs, rfl, .inr ⟨SqT.of q, o.here R (.ref ha)⟩⟩
      | _ => exact o.elim
    | _ => exact o.elim
def gMin : List LV → LH → Out LV := fun xs h => match xs with
  | [.int i, .int j] => .ok (.int (if j < i then j else i)) h
  | _ => .no
theorem im_min : ImL C E (fun xs H Q => ∃ i j, xs = [.int i, .int j] ∧ Q (.int (if j < i then j else i)) H) gMin := fun ρ h H x u Q R z o => by
  unfold gMin at o
  split at o
  · obtain ⟨u, v, rfl, z1, z2⟩ := z.two_
    cases z1; cases z2
    exact ⟨_, _, rfl, o.here R (.int _)⟩
  · exact o.elim
def gStr : List LV → LH → Out LV := fun xs h => match xs with
  | [.int i] => match decide (i.natAbs.log2 < 1920) with
    | true => .ok (.str (lsOf (toString i))) h
    | false => .no
  | [.str x] => .ok (.str x) h
  | _ => .no
abbrev rStrM : List V → Hp → VK → Prop := fun xs H Q => (∃ i, xs = [.int i] ∧ i.natAbs.log2 < 1920 ∧ Q (.str (toString i)) H) ∨ (∃ a, xs = [.str a] ∧ Q (.str a) H)
theorem call_strM : CallR X (.type "str") rStrM := CallR.or call_str_int SkE.call_str_str
theorem im_str : ImL C E rStrM gStr := fun ρ h H x u Q R z o => by
  unfold gStr at o
  split at o
  · obtain ⟨u, rfl, z1⟩ := z.one_
    cases z1
    rename_i i
    cases e : decide (i.natAbs.log2 < 1920) with
    | false => rw [e] at o; exact o.elim
    | true =>
      rw [e] at o
      exact .inl ⟨_, rfl, of_decide_eq_true e, o.here R (.str _)⟩
  · obtain ⟨u, rfl, z1⟩ := z.one_
    cases z1
    exact .inr ⟨_, rfl, o.here R (.str _)⟩
  · exact o.elim
def gInt : List LV → LH → Out LV := fun xs h => match xs with
  | [.str x] => match PySem.intText? (sOf x) with
    | some n => match Nat.blt x.length 600 with
      | true => .ok (.int n) h
      | false => .no
    | none => .no
  | _ => .no
theorem im_int : ImL C E (fun xs H Q => ∃ a n, xs = [.str a] ∧ PySem.intText? a = some n ∧ a.length ≤ 640 ∧ Q (.int n) H) gInt := fun ρ h H x u Q R z o => by
  unfold gInt at o
  split at o
  · obtain ⟨u, rfl, z1⟩ := z.one_
    cases z1
    rename_i x
    cases e : PySem.intText? (sOf x) with
    | none => rw [e] at o; exact o.elim
    | some n =>
      rw [e] at o
      dsimp only at o
      cases q : Nat.blt x.length 600 with
      | false => rw [q] at o; exact o.elim
      | true =>
        rw [q] at o
        have := blt_lt q
        exact ⟨_, n, rfl, e, (by show x.length ≤ 640; omega), o.here R (.int _)⟩
  · exact o.elim
/-! ### methods -/
inductive MT where
  | str | list | dict
def MT.nm : MT → String
  | .str => "str" | .list => "list" | .dict => "dict"
def tyM (T : MT) (v : LV) (h : LH) : Bool := match v with
  | .str _ => match T with | .str => true | _ => false
  | .ref i => match h.t.get i with
    | some (.lst _) => match T with | .list => true | _ => false
    | some (.dic _) => match T with | .dict => true | _ => false
    | _ => false
  | _ => false
theorem tyM_ok {T : MT} {v : LV} {u : V} (K : PySem.W.Frag) (R : Rel C ρ h H) (z : RV ρ v u) (e : tyM T v h = true) : tyV K T.nm u H := by
  cases z with
  | str x => cases T with
    | str => exact rfl
    | _ => cases e
  | @ref i a ha =>
    obtain ⟨o, ho, r⟩ := R.obj ha
    unfold tyM at e
    dsimp only at e
    rw [ho] at e
    cases o with
    | lst xs => cases T with
      | list => obtain ⟨vs, _, q⟩ := r; exact .inl ⟨rfl, vs, SqL.of q⟩
      | _ => cases e
    | dic xs => cases T with
      | dict => obtain ⟨vs, _, q⟩ := r; exact .inr (.inr (.inl ⟨rfl, .inl ⟨vs, q⟩⟩))
      | _ => cases e
    | _ => cases e
  | _ => cases e
def eBM (T : MT) (g : LV → List LV → LH → Out LV) (f : LS → LH → Out LV) (fs : LS → LH → Out (List LV)) : LS → LH → Out LV := fun l h => (f l h).bind fun x h1 => match tyM T x h1 with
  | true => (fs l h1).bind fun xs h2 => g x xs h2
  | false => .no
def ImM (C : Cst) (E : XK) (r : V → List V → Hp → VK → Prop) (g : LV → List LV → LH → Out LV) : Prop := ∀ (ρ : List Addr) (h : LH) (H : Hp) (x : LV) (u : V) (xs : List LV) (us : List V) (Q : VK), Rel C ρ h H → RV ρ x u → RVs ρ xs us → OkG C E RV ρ (g x xs h) Q → r u us H Q
variable {o a : Expr} {es : List Expr} {fo : LS → LH → Out LV} {fs : LS → LH → Out (List LV)} {name : Str} {apos cpos : Pos} {id : String} {r : V → List V → Hp → VK → Prop} {g : LV → List LV → LH → Out LV}
theorem e_bm0 (T : MT) (pa : PlainAttrs T.nm) (slot : Slot T.nm name id) (hty : typeOf (.builtin id) = pure (.type "method_descriptor")) (hm : MtR X id r) (hg : ImM C E r g) (ho : TrE C E X o fo)
    (hbase : attributeBase o name X.env (eval o X.env) = eval o X.env := by rfl) (hline : (apos.endLine == cpos.line) = true := by rfl) : TrE C E X (.Call (.Attribute o name apos) [] [] cpos) (eBM T g fo aNil) := by
  obtain ⟨t, p, i⟩ := ho
  refine ⟨_, pe_bm0 pa slot hty hm p hbase hline, fun ρ h H l σ Q R S o => i ρ h H l σ _ R S (o.bind fun x h1 ρ1 H1 u p1 R1 z o1 => ?_)⟩
  cases e : tyM T x h1 with
  | false => rw [e] at o1; exact o1.elim
  | true =>
    rw [e] at o1
    exact ⟨tyM_ok X.K R1 z e, hg ρ1 h1 H1 x u [] [] Q R1 z .nil o1⟩
theorem e_bm (T : MT) (pa : PlainAttrs T.nm) (slot : Slot T.nm name id) (hty : typeOf (.builtin id) = pure (.type "method_descriptor")) (hm : MtR X id r) (hg : ImM C E r g) (ho : TrE C E X o fo) (ha : TrA C E X (a :: es) fs)
    (hbase : attributeBase o name X.env (eval o X.env) = eval o X.env := by rfl)
    (hfew : ((backTo cpos (starEach (a :: es) X.env)).all (fun x => !x.1) && (backToKw cpos (keywordEach [] X.env)).all (fun x => x.1.isSome)
      && decide ((a :: es).length + ([] : List Keyword).length + (if ([] : List Keyword).isEmpty then 0 else 1) < 30)) = true := by rfl)
    (hline : (apos.endLine == cpos.line) = true := by rfl) (hs : starEach (a :: es) X.env = (false, eval a X.env) :: starEach es X.env := by rfl) (hplain : (backTo cpos (starEach es X.env)).any (·.1) = false := by rfl) :
    TrE C E X (.Call (.Attribute o name apos) (a :: es) [] cpos) (eBM T g fo fs) := by
  obtain ⟨t, p, i⟩ := ho
  obtain ⟨t', q, j⟩ := ha
  refine ⟨_, pe_bm pa slot hty hm p q hbase hfew hline hs hplain, fun ρ h H l σ Q R S o => i ρ h H l σ _ R S (o.bind fun x h1 ρ1 H1 u p1 R1 z o1 => ?_)⟩
  cases e : tyM T x h1 with
  | false => rw [e] at o1; exact o1.elim
  | true =>
    rw [e] at o1
    exact ⟨tyM_ok X.K R1 z e, j ρ1 h1 H1 l σ _ R1 (S.mono p1) (o1.bind fun xs h2 ρ2 H2 us p2 R2 z2 o2 => hg ρ2 h2 H2 x u xs us Q R2 (z.mono p2) z2 o2)⟩
def gAppend : LV → List LV → LH → Out LV := fun x xs h => match xs with
  | [y] => match lstL x h with
    | some zs => match Nat.blt zs.length 100000 with
      | true => h.upd (idL x) (.lst (zs ++ [y])) fun h1 => .ok .non h1
      | false => .no
    | none => .no
  | _ => .no
theorem im_append : ImM C E rAppend gAppend := fun ρ h H x u xs us Q R z1 z2 o => by
  match xs, z2, o with
  | [], _, o => exact o.elim
  | _ :: _ :: _, _, o => exact o.elim
  | [y], z2, o =>
    obtain ⟨v, rfl, z⟩ := z2.one_
    unfold gAppend at o
    dsimp only at o
    cases e : lstL x h with
    | none => rw [e] at o; exact o.elim
    | some zs =>
      rw [e] at o
      dsimp only at o
      obtain ⟨a, vs, ha, _, rfl, zz, hh⟩ := lstL_ok R z1 e
      cases q : Nat.blt zs.length 100000 with
      | false => rw [q] at o; exact o.elim
      | true =>
        rw [q] at o
        have q2 := blt_lt q
        rw [zz.length] at q2
        refine ⟨a, vs, v, rfl, rfl, hh, (by rw [sizeLine_eq]; omega), ?_⟩
        obtain ⟨R4, o4⟩ := OkG.upd o R ha hh thing_lst (u' := .lst (vs ++ [v])) ⟨_, zz.append (.cons z .nil), upd_same⟩
        exact o4.here R4 .non
def gExtend : LV → List LV → LH → Out LV := fun x xs h => match xs with
  | [y] => match lstL x h with
    | some zs => match lstL y h with
      | some ws => match Nat.blt (zs.length + ws.length) 100000 with
        | true => h.upd (idL x) (.lst (zs ++ ws)) fun h1 => .ok .non h1
        | false => .no
      | none => .no
    | none => .no
  | _ => .no
theorem im_extend : ImM C E rExtend gExtend := fun ρ h H x u xs us Q R z1 z2 o => by
  match xs, z2, o with
  | [], _, o => exact o.elim
  | _ :: _ :: _, _, o => exact o.elim
  | [y], z2, o =>
    obtain ⟨v, rfl, z⟩ := z2.one_
    unfold gExtend at o
    dsimp only at o
    cases e : lstL x h with
    | none => rw [e] at o; exact o.elim
    | some zs =>
      rw [e] at o
      dsimp only at o
      obtain ⟨a, vs, ha, _, rfl, zz, hh⟩ := lstL_ok R z1 e
      cases e2 : lstL y h with
      | none => rw [e2] at o; exact o.elim
      | some ws =>
        rw [e2] at o
        dsimp only at o
        obtain ⟨b, ts, hb, _, rfl, zt, hh2⟩ := lstL_ok R z e2
        cases q : Nat.blt (zs.length + ws.length) 100000 with
        | false => rw [q] at o; exact o.elim
        | true =>
          rw [q] at o
          have q2 := blt_lt q
          rw [zz.length, zt.length] at q2
          refine ⟨a, b, vs, ts, rfl, rfl, hh, hh2, (by rw [sizeLine_eq]; omega), ?_⟩
          obtain ⟨R4, o4⟩ := OkG.upd o R ha hh thing_lst (u' := .lst (vs ++ ts)) ⟨_, zz.append zt, upd_same⟩
          exact o4.here R4 .non
def gPop : LV → List LV → LH → Out LV := fun x xs h => match xs with
  | [] => match lstL x h with
    | some zs => match zs[zs.length - 1]? with
      | some y => h.upd (idL x) (.lst zs.dropLast) fun h1 => .ok y h1
      | none => .no
    | none => .no
  | _ => .no
theorem RVs.nth_ {xs : List LV} {vs : List V} (z : RVs ρ xs vs) {j : Nat} {v : LV} (e : xs[j]? = some v) : ∃ u, vs[j]? = some u ∧ RV ρ v u := by
  induction z generalizing j with
  | nil => cases e
  | cons r t ih =>
    cases j with
    | zero => cases e; exact ⟨_, rfl, r⟩
    | succ j => exact ih e
theorem RVs.init_ {xs : List LV} {vs : List V} (z : RVs ρ xs vs) : RVs ρ xs.dropLast vs.dropLast := by
  induction z with
  | nil => exact .nil
  | cons r t ih => cases t with
    | nil => exact .nil
    | cons r2 t2 => exact .cons r ih
theorem im_pop : ImM C E rPop gPop := fun ρ h H x u xs us Q R z1 z2 o => by
  match xs, z2, o with
  | _ :: _, _, o => exact o.elim
  | [], z2, o =>
    cases z2
    unfold gPop at o
    dsimp only at o
    cases e : lstL x h with
    | none => rw [e] at o; exact o.elim
    | some zs =>
      rw [e] at o
      dsimp only at o
      obtain ⟨a, vs, ha, _, rfl, zz, hh⟩ := lstL_ok R z1 e
      cases q : zs[zs.length - 1]? with
      | none => rw [q] at o; exact o.elim
      | some y =>
        rw [q] at o
        obtain ⟨w, hw, zw⟩ := zz.nth_ q
        rw [zz.length] at hw
        refine ⟨a, vs, w, rfl, rfl, hh, hw, ?_⟩
        obtain ⟨R4, o4⟩ := OkG.upd o R ha hh thing_lst (u' := .lst vs.dropLast) ⟨_, zz.init_, upd_same⟩
        exact o4.here R4 zw
def lvS (xs : List Str) : List LV := xs.map fun s => .str (lsOf s)
theorem lvS_ok : ∀ xs : List Str, RVs ρ (lvS xs) (xs.map V.str)
  | [] => .nil
  | x :: xs => .cons (.str x.cps.toList) (lvS_ok xs)
def strsL : List LV → Option (List Str)
  | [] => some []
  | .str x :: r => match strsL r with
    | some bs => some (sOf x :: bs)
    | none => none
  | _ :: _ => none
theorem strs_ok : ∀ {xs : List LV} {vs : List V} {bs : List Str}, RVs ρ xs vs → strsL xs = some bs → vs = bs.map V.str
  | _, _, _, .nil, e => by cases e; rfl
  | _, _, _, .cons r t, e => by
    cases r with
    | str b =>
      rename_i xs vs
      have e : (match strsL xs with
        | some bs => some (sOf b :: bs)
        | none => none) = some _ := e
      cases q : strsL xs with
      | none => rw [q] at e; cases e
      | some cs => rw [q] at e; cases e; rw [List.map_cons, strs_ok t q]; rfl
    | _ => cases e
def gSplit : LV → List LV → LH → Out LV := fun x xs h => match x, xs with
  | .str a, [.str b] => match !Nat.beq b.length 0 && Nat.blt a.length 100000 with
    | true => h.new (.lst (lvS (Txt.split (sOf a) (sOf b)))) fun n h2 => .ok (.ref n) h2
    | false => .no
  | _, _ => .no
theorem im_split : ImM C E (fun x xs H Q => ∃ a b, x = .str a ∧ xs = [.str b] ∧ (b.length == 0) = false ∧ a.length + 2 ≤ sizeLine ∧ rNewStrs (Txt.split a b) H Q) gSplit := fun ρ h H x u xs us Q R z1 z2 o => by
  unfold gSplit at o
  split at o
  · obtain ⟨v, rfl, z⟩ := z2.one_
    cases z; cases z1
    rename_i a b
    cases e : !Nat.beq b.length 0 && Nat.blt a.length 100000 with
    | false => rw [e] at o; exact o.elim
    | true =>
      rw [e] at o
      rw [Bool.and_eq_true] at e
      have e2 := blt_lt e.2
      refine ⟨_, _, rfl, rfl, ?_, (by show a.length + 2 ≤ sizeLine; rw [sizeLine_eq]; omega), fun p n => ?_⟩
      · show (b.length == 0) = false
        have := e.1
        cases b with
        | nil => cases this
        | cons _ _ => rfl
      · obtain ⟨R4, e4, p4, o4⟩ := OkG.new o R n (u := .lst ((Txt.split (sOf a) (sOf b)).map V.str)) ⟨_, lvS_ok _, upd_same⟩
        exact o4 _ _ _ p4 R4 (.ref e4)
  · exact o.elim
def gJoin : LV → List LV → LH → Out LV := fun x xs h => match x, xs with
  | .str a, [y] => match seqL y h with
    | some zs => match strsL zs with
      | some ys => match Nat.blt ((ys.map (·.length)).sum + ys.length * a.length) 100000 with
        | true => .ok (.str (lsOf (Txt.join (sOf a) ys))) h
        | false => .no
      | none => .no
    | none => .no
  | _, _ => .no
abbrev rJoinM (K : PySem.W.Frag) : V → List V → Hp → VK → Prop := fun x xs H Q => ∃ a p, ∃ ys : List Str, x = .str a ∧ xs = [.ref p] ∧ (SqL K H p (ys.map V.str) ∨ SqT K H p (ys.map V.str)) ∧
    (ys.map (·.length)).sum + ys.length * a.length ≤ 16777216 ∧ Q (.str (Txt.join a ys)) H
theorem im_join (K : PySem.W.Frag) : ImM C E (rJoinM K) gJoin := fun ρ h H x u xs us Q R z1 z2 o => by
  unfold gJoin at o
  split at o
  · obtain ⟨v, rfl, z⟩ := z2.one_
    cases z1
    rename_i a y
    cases e : seqL y h with
    | none => rw [e] at o; exact o.elim
    | some zs =>
      rw [e] at o
      dsimp only at o
      obtain ⟨p, vs, rfl, zz, hh⟩ := seqL_ok R z e
      cases e2 : strsL zs with
      | none => rw [e2] at o; exact o.elim
      | some ys =>
        rw [e2] at o
        dsimp only at o
        have := strs_ok zz e2
        subst this
        cases q : Nat.blt ((ys.map (·.length)).sum + ys.length * a.length) 100000 with
        | false => rw [q] at o; exact o.elim
        | true =>
          rw [q] at o
          have q2 := blt_lt q
          refine ⟨_, p, ys, rfl, rfl, hh.imp SqL.of SqT.of, (by show _ + ys.length * a.length ≤ _; omega), o.here R (.str _)⟩
  · exact o.elim
def findV (y : V) : List V → Option Nat
  | [] => none
  | z :: r => match eqV z y with
    | true => some 0
    | false => (findV y r).map (· + 1)
theorem findV_ok {y : V} : ∀ {l : List V} {j : Nat}, findV y l = some j → ∃ z, l[j]? = some z ∧ eqV z y = true ∧ ∀ (m : Nat) (z' : V), m < j → l[m]? = some z' → eqV z' y = false
  | [], j, e => by cases e
  | z :: r, j, e => by
    unfold findV at e
    cases q : eqV z y with
    | true => rw [q] at e; cases e; exact ⟨z, rfl, q, fun m z' hm => absurd hm (Nat.not_lt_zero _)⟩
    | false =>
      rw [q] at e
      cases w : findV y r with
      | none => rw [w] at e; cases e
      | some i =>
        rw [w] at e
        cases e
        obtain ⟨z2, h1, h2, h3⟩ := findV_ok w
        refine ⟨z2, h1, h2, fun m z' hm hz => ?_⟩
        cases m with
        | zero => cases hz; exact q
        | succ m => exact h3 m z' (Nat.lt_of_succ_lt_succ hm) hz
def gIndex : LV → List LV → LH → Out LV := fun x xs h => match xs with
  | [y] => match lstL x h with
    | some zs => match flatL y && zs.all flatL with
      | true => match findV (vOf y) (zs.map vOf) with
        | some j => .ok (.int (j : Nat)) h
        | none => .no
      | false => .no
    | none => .no
  | _ => .no
theorem im_index (K : PySem.W.Frag) : ImM C E (rIndex K) gIndex := fun ρ h H x u xs us Q R z1 z2 o => by
  match xs, z2, o with
  | [], _, o => exact o.elim
  | _ :: _ :: _, _, o => exact o.elim
  | [y], z2, o =>
    obtain ⟨v, rfl, z⟩ := z2.one_
    unfold gIndex at o
    dsimp only at o
    cases e : lstL x h with
    | none => rw [e] at o; exact o.elim
    | some zs =>
      rw [e] at o
      dsimp only at o
      obtain ⟨a, vs, ha, _, rfl, zz, hh⟩ := lstL_ok R z1 e
      cases q : flatL y && zs.all flatL with
      | false => rw [q] at o; exact o.elim
      | true =>
        rw [q] at o
        rw [Bool.and_eq_true] at q
        dsimp only at o
        obtain ⟨f1, f2⟩ := flats_ok zz q.2
        rw [vOf_eq z q.1, f2] at o
        cases w : findV v vs with
        | none => rw [w] at o; exact o.elim
        | some j =>
          rw [w] at o
          obtain ⟨z', k1, k2, k3⟩ := findV_ok w
          exact ⟨a, vs, v, j, z', rfl, rfl, SqL.of hh, flat_ok z q.1, f1, k1, k2, k3, o.here R (.int _)⟩
/-- xs.count(True), bools -/
def dB (bs : List Bool) : List PyData := bs.map .bool
theorem bools_read {hp : Heap} : ∀ bs : List Bool, ∃ as, ReadsAll hp (bs.map Value.bool) (dB bs) as
  | [] => ⟨_, .nil⟩
  | b :: bs => let ⟨_, r⟩ := bools_read bs; ⟨_, .cons (.bool b) r⟩
def rCntB (K : PySem.W.Frag) : V → List V → Hp → VK → Prop := fun x xs H Q => ∃ (p : Addr) (bs : List Bool) (k : Bool), x = .ref p ∧ xs = [.bl k] ∧ SqL K H p (bs.map V.bl) ∧ Q (.int (countIn (.bool k) (dB bs))) H
theorem mt_countB : MtR X "list.count" (rCntB X.K) := by
  intro pins s σ H x xs v us Q I rx rxs h
  obtain ⟨p, bs, k, rfl, rfl, hs, q⟩ := h
  cases rx
  obtain ⟨u, rfl, ru⟩ := rxs.one
  cases ru
  obtain ⟨its, rv, hl, _⟩ := I.list hs
  have hb := rv.bls
  subst hb
  obtain ⟨as, ra⟩ := bools_read (hp := s.heap) bs
  exact PyProof.Rows.count_list_bools hl.isList ra (by unfold dB; rw [List.all_map]; exact List.all_eq_true.mpr fun _ _ => rfl) ⟨.int _, H, I.tok _, ⟨_, rfl⟩, q⟩
def gCount : LV → List LV → LH → Out LV := fun x xs h => match xs with
  | [.bl k] => match lstL x h with
    | some zs => match boolsL zs with
      | some bs => .ok (.int (countIn (.bool k) (dB bs))) h
      | none => .no
    | none => .no
  | _ => .no
theorem im_count (K : PySem.W.Frag) : ImM C E (rCntB K) gCount := fun ρ h H x u xs us Q R z1 z2 o => by
  unfold gCount at o
  split at o
  · obtain ⟨v, rfl, z⟩ := z2.one_
    cases z
    rename_i k
    cases e : lstL x h with
    | none => rw [e] at o; exact o.elim
    | some zs =>
      rw [e] at o
      dsimp only at o
      obtain ⟨a, vs, ha, _, rfl, zz, hh⟩ := lstL_ok R z1 e
      cases e2 : boolsL zs with
      | none => rw [e2] at o; exact o.elim
      | some bs =>
        rw [e2] at o
        have := bools_ok zz e2
        subst this
        exact ⟨a, bs, k, rfl, rfl, SqL.of hh, o.here R (.int _)⟩
  · exact o.elim
end
end MR
set_option maxHeartbeats 4000000
/-! Mirror 6: dicts. -/
namespace MR
open PySem PySem.Spec PyProof.Rows L2

abbrev LD := List (LK × LV)
def kOf : LK → Key
  | .i n => .inl n
  | .s x => .inr ⟨⟨x⟩⟩
theorem RK.eq {a : LK} {k : Key} (h : RK a k) : k = kOf a := by cases h <;> rfl
theorem rk_of (a : LK) : RK a (kOf a) := by cases a; exact .i _; exact .s _
def beqL : List Nat → List Nat → Bool
  | [], [] => true
  | a :: r, b :: s => match Nat.beq a b with
    | true => beqL r s
    | false => false
  | _, _ => false
theorem beqL_eq : ∀ a b : List Nat, beqL a b = decide (a = b)
  | [], [] => rfl
  | [], _ :: _ => rfl
  | _ :: _, [] => rfl
  | a :: r, b :: s => by
    show (match Nat.beq a b with
      | true => beqL r s
      | false => false) = _
    rw [Tr.beq_eq]
    by_cases h : a = b
    · subst h
      rw [decide_eq_true rfl]
      show beqL r s = _
      rw [beqL_eq r s]
      simp
    · rw [decide_eq_false h]
      simp [h]
def beqI : Int → Int → Bool
  | .ofNat a, .ofNat b => Nat.beq a b
  | .negSucc a, .negSucc b => Nat.beq a b
  | _, _ => false
theorem beqI_eq : ∀ a b : Int, beqI a b = decide (a = b)
  | .ofNat a, .ofNat b => by show Nat.beq a b = _; rw [Tr.beq_eq]; exact decide_eq_decide.mpr ⟨fun h => by rw [h], fun h => Int.ofNat.inj h⟩
  | .negSucc a, .negSucc b => by show Nat.beq a b = _; rw [Tr.beq_eq]; exact decide_eq_decide.mpr ⟨fun h => by rw [h], fun h => Int.negSucc.inj h⟩
  | .ofNat a, .negSucc b => by show false = _; simp
  | .negSucc a, .ofNat b => by show false = _; simp
def beqK : LK → LK → Bool
  | .i a, .i b => beqI a b
  | .s a, .s b => beqL a b
  | _, _ => false
theorem beqK_eq : ∀ a b : LK, beqK a b = decide (kOf a = kOf b)
  | .i a, .i b => by show beqI a b = _; rw [beqI_eq]; simp [kOf]
  | .s a, .s b => by show beqL a b = _; rw [beqL_eq]; simp [kOf]
  | .i a, .s b => by show false = _; simp [kOf]
  | .s a, .i b => by show false = _; simp [kOf]
def getL : LD → LK → Option LV
  | [], _ => none
  | (j, v) :: r, k => match beqK j k with
    | true => some v
    | false => getL r k
def hasL : LD → LK → Bool
  | [], _ => false
  | (j, _) :: r, k => match beqK j k with
    | true => true
    | false => hasL r k
def replL : LD → LK → LV → LD
  | [], _, _ => []
  | (j, w) :: r, k, v => match beqK j k with
    | true => (j, v) :: replL r k v
    | false => (j, w) :: replL r k v
def putL (d : LD) (k : LK) (v : LV) : LD := match hasL d k with
  | true => replL d k v
  | false => d ++ [(k, v)]
def keyL : LV → Option LK
  | .int n => some (.i n)
  | .str x => some (.s x)
  | _ => none
def lvK : LK → LV
  | .i n => .int n
  | .s x => .str x
section
variable {C : Cst} {E : XK} {X : Cx} {ρ : List Addr} {h : LH} {H : Hp}
theorem getL_ok : ∀ {d : LD} {kvs : List (Key × V)} (k : LK), RKVs ρ d kvs → (∀ v, getL d k = some v → ∃ u, valV kvs (kOf k) = some u ∧ RV ρ v u) ∧ (getL d k = none → valV kvs (kOf k) = none)
  | _, _, k, .nil => ⟨fun v e => (by cases e), fun _ => rfl⟩
  | _, _, k, .cons (a := (j, w)) (b := (kk, u)) (l₁ := d) (l₂ := kvs) r t => by
    obtain ⟨ih1, ih2⟩ := getL_ok k t
    have ek := r.1.eq
    have e : getL ((j, w) :: d) k = match beqK j k with
      | true => some w
      | false => getL d k := rfl
    by_cases q : kOf j = kOf k
    · have q2 : beqK j k = true := by rw [beqK_eq, decide_eq_true q]
      rw [e, q2]
      have hv : valV ((kk, u) :: kvs) (kOf k) = some u := valV_pos (by rw [← q]; exact ek)
      exact ⟨fun v e => (by cases e; exact ⟨u, hv, r.2⟩), fun e => (by cases e)⟩
    · have q2 : beqK j k = false := by rw [beqK_eq, decide_eq_false q]
      rw [e, q2]
      have hv : valV ((kk, u) :: kvs) (kOf k) = valV kvs (kOf k) := valV_neg (by show ¬ kk = kOf k; rw [show kk = kOf j from ek]; exact q)
      rw [hv]
      exact ⟨ih1, ih2⟩
theorem hasL_ok : ∀ {d : LD} {kvs : List (Key × V)} (k : LK), RKVs ρ d kvs → (kvs.any fun kv => decide (kv.1 = kOf k)) = hasL d k
  | _, _, k, .nil => rfl
  | _, _, k, .cons (a := (j, w)) (b := (kk, u)) (l₁ := d) (l₂ := kvs) r t => by
    have ek : kk = kOf j := r.1.eq
    rw [List.any_cons, hasL_ok k t]
    show (decide (kk = kOf k) || hasL d k) = (match beqK j k with
      | true => true
      | false => hasL d k)
    rw [ek, beqK_eq]
    cases decide (kOf j = kOf k) <;> rfl
theorem putL_ok {d : LD} {kvs : List (Key × V)} (k : LK) {v : LV} {u : V} (r : RKVs ρ d kvs) (z : RV ρ v u) : RKVs ρ (putL d k v) (putK kvs (kOf k) u) := by
  unfold putL putK
  rw [hasL_ok k r]
  cases hasL d k with
  | true =>
    rw [if_pos rfl]
    show RKVs ρ (replL d k v) _
    induction r with
    | nil => exact .nil
    | @cons a b l1 l2 r t ih =>
      obtain ⟨j, w⟩ := a
      obtain ⟨kk, u'⟩ := b
      have ek : kk = kOf j := r.1.eq
      rw [List.map_cons]
      show RKVs ρ (match beqK j k with
        | true => (j, v) :: replL l1 k v
        | false => (j, w) :: replL l1 k v) _
      rw [beqK_eq]
      by_cases q : kOf j = kOf k
      · rw [decide_eq_true q, if_pos (show kk = kOf k from by rw [ek]; exact q)]
        exact .cons ⟨r.1, z⟩ ih
      · rw [decide_eq_false q, if_neg (show ¬ kk = kOf k from by rw [ek]; exact q)]
        exact .cons ⟨r.1, r.2⟩ ih
  | false =>
    rw [if_neg Bool.false_ne_true]
    show RKVs ρ (d ++ [(k, v)]) _
    induction r with
    | nil => exact .cons ⟨rk_of k, z⟩ .nil
    | cons r t ih => exact .cons r ih
theorem keyL_ok {v : LV} {u : V} {k : LK} (z : RV ρ v u) (e : keyL v = some k) : u = kV (kOf k) := by
  cases z with
  | int i => cases e; rfl
  | str x => cases e; rfl
  | _ => cases e
theorem lvK_ok {k : LK} {kk : Key} (r : RK k kk) : RV ρ (lvK k) (kV kk) := by
  cases r with
  | i n => exact .int n
  | s x => exact .str x
/-- the dict at a number: its entries, and whether it may be changed -/
def dicL (v : LV) (h : LH) : Option LD := match v with
  | .ref i => match h.t.get i with
    | some (.dic d) => some d
    | some (.frz d) => some d
    | _ => none
  | _ => none
def dicW (v : LV) (h : LH) : Option LD := match v with
  | .ref i => match h.t.get i with
    | some (.dic d) => some d
    | _ => none
  | _ => none
theorem dicL_ok {v : LV} {u : V} {d : LD} (R : Rel C ρ h H) (z : RV ρ v u) (e : dicL v h = some d) : ∃ a kvs, u = .ref a ∧ RKVs ρ d kvs ∧ Rd H a (.dK kvs) := by
  cases z with
  | @ref i a ha =>
    obtain ⟨o, ho, r⟩ := R.obj ha
    unfold dicL at e
    dsimp only at e
    rw [ho] at e
    cases o with
    | dic ys => cases e; obtain ⟨vs, p, q⟩ := r; exact ⟨a, vs, rfl, p, .inl q⟩
    | frz ys => cases e; obtain ⟨vs, o, p, q, _⟩ := r; exact ⟨a, vs, rfl, p, .inr ⟨o, q⟩⟩
    | _ => cases e
  | _ => cases e
theorem dicW_ok {v : LV} {u : V} {d : LD} (R : Rel C ρ h H) (z : RV ρ v u) (e : dicW v h = some d) : ∃ a kvs, ρ[idL v]? = some a ∧ v = .ref (idL v) ∧ u = .ref a ∧ RKVs ρ d kvs ∧ H a = some (.dK kvs) := by
  cases z with
  | @ref i a ha =>
    obtain ⟨o, ho, r⟩ := R.obj ha
    unfold dicW at e
    dsimp only at e
    rw [ho] at e
    cases o with
    | dic ys => cases e; obtain ⟨vs, p, q⟩ := r; exact ⟨a, vs, ha, rfl, rfl, p, q⟩
    | _ => cases e
  | _ => cases e
theorem dget_ok {v y : LV} {u w : V} {d : LD} {k : LK} (R : Rel C ρ h H) (z : RV ρ v u) (e : dicL v h = some d) (z2 : RV ρ y w) (ek : keyL y = some k) :
    ∃ a o, u = .ref a ∧ DGet H a w o ∧ (∀ x, getL d k = some x → ∃ t, o = some t ∧ RV ρ x t) ∧ (getL d k = none → o = none) ∧ ∃ kvs, Rd H a (.dK kvs) := by
  obtain ⟨a, kvs, rfl, r, hd⟩ := dicL_ok R z e
  obtain ⟨h1, h2⟩ := getL_ok k r
  refine ⟨a, valV kvs (kOf k), rfl, .inl ⟨kvs, kOf k, hd, keyL_ok z2 ek, rfl⟩, fun x hx => ?_, h2, kvs, hd⟩
  obtain ⟨t, e1, e2⟩ := h1 x hx
  exact ⟨t, e1, e2⟩
/-! d[k]; k in d -/
def gDGet : LV → LV → LH → Out LV := fun x y h => match dicL x h with
  | some d => match keyL y with
    | some k => oV (getL d k) h
    | none => .no
  | none => .no
def gDIn (neg : Bool) : LV → LV → LH → Out LV := fun y x h => match dicL x h with
  | some d => match keyL y with
    | some k => .ok (.bl (if neg then !(getL d k).isSome else (getL d k).isSome)) h
    | none => .no
  | none => .no
variable {a b e : Expr} {fa fb fe : LS → LH → Out LV} {pos pos' : Pos}
theorem e_dget (hu : X.A.units + 1 < cLine) (ha : TrE C E X a fa) (hb : TrE C E X b fb) (hs : NoSl b := by exact fun _ _ => rfl) : TrE C E X (.Subscript a b pos) (eOp gDGet fa fb) := by
  obtain ⟨t, p, i⟩ := ha
  obtain ⟨t', q, j⟩ := hb
  refine ⟨_, pe_dget hu p q hs, fun ρ h H l σ Q R S o => i ρ h H l σ _ R S (o.bind fun x h1 ρ1 H1 u p1 R1 z1 o1 => j ρ1 h1 H1 l σ _ R1 (S.mono p1) (o1.bind fun y h2 ρ2 H2 v p2 R2 z2 o2 => ?_))⟩
  unfold gDGet at o2
  cases e1 : dicL x h2 with
  | none => rw [e1] at o2; exact o2.elim
  | some d =>
    rw [e1] at o2
    dsimp only at o2
    cases e2 : keyL y with
    | none => rw [e2] at o2; exact o2.elim
    | some k =>
      rw [e2] at o2
      dsimp only at o2
      obtain ⟨A, o, rfl, g, h3, h4, _⟩ := dget_ok R2 (z1.mono p2) e1 z2 e2
      cases e3 : getL d k with
      | none => rw [e3] at o2; exact o2.elim
      | some w =>
        rw [e3] at o2
        obtain ⟨t, rfl, rt⟩ := h3 w e3
        exact ⟨A, t, rfl, g, o2.here R2 rt⟩
theorem din_ok (neg : Bool) {ta tb : TE} (i : ImE C E ta fa) (j : ImE C E tb fb) : ImE C E (fun σ H Q => ta σ H fun y H1 => tb σ H1 fun x H2 => ∃ a o, x = .ref a ∧ DGet H2 a y o ∧ Q (.bl (if neg then !o.isSome else o.isSome)) H2) (eOp (gDIn neg) fa fb) := fun ρ h H l σ Q R S o => by
  refine i ρ h H l σ _ R S (o.bind fun y h1 ρ1 H1 v p1 R1 z1 o1 => j ρ1 h1 H1 l σ _ R1 (S.mono p1) (o1.bind fun x h2 ρ2 H2 u p2 R2 z2 o2 => ?_))
  unfold gDIn at o2
  cases e1 : dicL x h2 with
  | none => rw [e1] at o2; exact o2.elim
  | some d =>
    rw [e1] at o2
    dsimp only at o2
    cases e2 : keyL y with
    | none => rw [e2] at o2; exact o2.elim
    | some k =>
      rw [e2] at o2
      dsimp only at o2
      obtain ⟨A, o, rfl, g, h3, h4, _⟩ := dget_ok R2 z2 e1 (z1.mono p2) e2
      refine ⟨A, o, rfl, g, ?_⟩
      have : o.isSome = (getL d k).isSome := by
        cases e3 : getL d k with
        | none => rw [h4 e3]; rfl
        | some w => obtain ⟨t, rfl, _⟩ := h3 w e3; rfl
      rw [this]
      exact o2.here R2 (.bl _)
theorem e_din (hu : X.A.units + 1 < cLine) (ha : TrE C E X a fa) (hb : TrE C E X b fb) (hmk : behindInMarks CmpOp.In b = false := by first | exact nomark _ | with_unfolding_all rfl) : TrE C E X (.Compare a [.In] [b] pos) (eOp (gDIn false) fa fb) := by
  obtain ⟨t, p, i⟩ := ha
  obtain ⟨t', q, j⟩ := hb
  exact ⟨_, pe_cmp (pc_din hu p q) hmk, din_ok false i j⟩
theorem e_dnotin (hu : X.A.units + 1 < cLine) (ha : TrE C E X a fa) (hb : TrE C E X b fb) (hmk : behindInMarks CmpOp.NotIn b = false := by first | exact nomark _ | with_unfolding_all rfl) : TrE C E X (.Compare a [.NotIn] [b] pos) (eOp (gDIn true) fa fb) := by
  obtain ⟨t, p, i⟩ := ha
  obtain ⟨t', q, j⟩ := hb
  exact ⟨_, pe_cmp (pc_dnotin hu p q) hmk, din_ok true i j⟩
theorem t_din (hu : X.A.units + 1 < cLine) (ha : TrE C E X a fa) (hb : TrE C E X b fb) (hmk : behindInMarks CmpOp.In b = false := by first | exact nomark _ | with_unfolding_all rfl) : TrT C E X (.Compare a [.In] [b] pos) (tOf (eOp (gDIn false) fa fb)) := by
  obtain ⟨t, p, i⟩ := ha
  obtain ⟨t', q, j⟩ := hb
  exact ⟨_, pt_cmp (pc_din hu p q) hmk, im_tB (din_ok false i j)⟩
theorem t_dnotin (hu : X.A.units + 1 < cLine) (ha : TrE C E X a fa) (hb : TrE C E X b fb) (hmk : behindInMarks CmpOp.NotIn b = false := by first | exact nomark _ | with_unfolding_all rfl) : TrT C E X (.Compare a [.NotIn] [b] pos) (tOf (eOp (gDIn true) fa fb)) := by
  obtain ⟨t, p, i⟩ := ha
  obtain ⟨t', q, j⟩ := hb
  exact ⟨_, pt_cmp (pc_dnotin hu p q) hmk, im_tB (din_ok true i j)⟩
/-! d[k] = v -/
def sDPutM (fd fk fv : LS → LH → Out LV) : LS → LH → Out LF := fun l h => (fv l h).bind fun v h1 => (fd l h1).bind fun x h2 => (fk l h2).bind fun y h3 => match dicW x h3 with
  | some d => match keyL y with
    | some k => match Nat.blt d.length 100000 with
      | true => h3.upd (idL x) (.dic (putL d k v)) fun h4 => .ok (.nx l) h4
      | false => .no
    | none => .no
  | none => .no
theorem EndsOk.upd {ρ : List Addr} {h : LH} {H : Hp} {i : Nat} {a : Addr} {o : LO} {k : LH → Out LF} {D : Ends} (x : EndsOk C E ρ D (h.upd i o k)) (R : Rel C ρ h H) (e : ρ[i]? = some a) {u u' : HO} (ha : H a = some u) (tu : Thing u) (r : RO C ρ (upd H a u') a o) :
    Rel C ρ ⟨h.n, h.t.put 20 i o⟩ (upd H a u') ∧ EndsOk C E ρ D (k ⟨h.n, h.t.put 20 i o⟩) := by
  unfold LH.upd at x
  cases e1 : Nat.blt h.n 500000 with
  | false => rw [e1] at x; exact x.elim
  | true =>
    rw [e1] at x
    exact ⟨R.upd e (by have := blt_lt e1; omega) ha tu r, x⟩
theorem s_dput {value : Expr} {fv : LS → LH → Out LV} (hu : X.A.units + 1 < cLine) (ha : TrE C E X a fa) (hb : TrE C E X b fb) (hv : TrE C E X value fv) (hs : swapsWith value (some (.Subscript a b pos')) pos.line X.env = pure false := by rfl) :
    TrS C E X (.Assign [.Subscript a b pos'] value pos) (sDPutM fa fb fv) := by
  obtain ⟨t, p, i⟩ := ha
  obtain ⟨t', q, j⟩ := hb
  obtain ⟨t2, s, k⟩ := hv
  refine ⟨_, ps_dput hu p q s hs, fun ρ h H l σ D R S o => k ρ h H l σ _ R S (EndsOk.bind o fun v h1 ρ1 H1 w p1 R1 z1 o1 => i ρ1 h1 H1 l σ _ R1 (S.mono p1) (EndsOk.bind o1 fun x h2 ρ2 H2 u p2 R2 z2 o2 =>
    j ρ2 h2 H2 l σ _ R2 ((S.mono p1).mono p2) (EndsOk.bind o2 fun y h3 ρ3 H3 uy p3 R3 z3 o3 => ?_)))⟩
  cases e1 : dicW x h3 with
  | none => rw [e1] at o3; exact o3.elim
  | some d =>
    rw [e1] at o3
    dsimp only at o3
    cases e2 : keyL y with
    | none => rw [e2] at o3; exact o3.elim
    | some kk =>
      rw [e2] at o3
      dsimp only at o3
      cases e3 : Nat.blt d.length 100000 with
      | false => rw [e3] at o3; exact o3.elim
      | true =>
        rw [e3] at o3
        obtain ⟨A, kvs, hA, _, rfl, r, hd⟩ := dicW_ok R3 (z2.mono p3) e1
        have := blt_lt e3
        have hl : kvs.length < sizeLine := by rw [← Paired.length r, sizeLine_eq]; omega
        obtain ⟨R4, o4⟩ := EndsOk.upd (u' := .dK (putK kvs (kOf kk) w)) o3 R3 hA hd thing_dK ⟨_, putL_ok kk r (z1.mono (p2.trans p3)), upd_same⟩
        refine ⟨A, _, rfl, .inl ⟨kvs, kOf kk, hd, keyL_ok z3 e2, hl, rfl⟩, ?_⟩
        exact o4 ρ3 _ (pre.refl _) R4 σ (((S.mono p1).mono p2).mono p3)
/-! {}, dict(d), dict([]) -/
theorem e_dnew : TrE C E X (.Dict [] [] pos) (eNew (fun _ => .dic []) aNil) := by
  refine ⟨_, pe_dnewK, fun ρ h H l σ Q R S o q n => ?_⟩
  obtain ⟨R2, e2, p2, o2⟩ := OkG.new (show OkG C E RV ρ (h.new (.dic []) fun n h2 => .ok (.ref n) h2) Q from o) R n (u := .dK []) ⟨[], .nil, upd_same⟩
  exact o2 _ _ _ p2 R2 (.ref e2)
def gDict : List LV → LH → Out LV := fun xs h => match xs with
  | [x] => match dicL x h with
    | some d => h.new (.dic d) fun n h2 => .ok (.ref n) h2
    | none => match lstL x h with
      | some [] => h.new (.dic []) fun n h2 => .ok (.ref n) h2
      | _ => .no
  | _ => .no
def rDictM (K : PySem.W.Frag) : List V → Hp → VK → Prop := fun xs H Q => (∃ (a : Addr) (kvs : List (Key × V)), xs = [.ref a] ∧ Rd H a (.dK kvs) ∧ ∀ p, H p = none → Q (.ref p) (upd H p (.dK kvs))) ∨
  (∃ (a : Addr) (ps : List Addr) (kvs : List (Key × V)), xs = [.ref a] ∧ SqL K H a (ps.map V.ref) ∧ Paired (fun p kv => SqT K H p [kV kv.1, kv.2]) ps kvs ∧ ∀ p, H p = none → Q (.ref p) (upd H p (.dK (mergeK [] kvs))))
theorem call_dictM (hc : X.calm = true) : CallR X (.type "dict") (rDictM X.K) := CallR.or call_dictD (call_dictP hc)
theorem im_dict (K : PySem.W.Frag) : ImL C E (rDictM K) gDict := fun ρ h H x u Q R z o => by
  match x, z, o with
  | [], _, o => exact o.elim
  | _ :: _ :: _, _, o => exact o.elim
  | [x], z, o =>
    obtain ⟨u, rfl, z0⟩ := z.one_
    unfold gDict at o
    dsimp only at o
    cases e : dicL x h with
    | some d =>
      rw [e] at o
      obtain ⟨a, kvs, rfl, r, hd⟩ := dicL_ok R z0 e
      refine .inl ⟨a, kvs, rfl, hd, fun p n => ?_⟩
      obtain ⟨R2, e2, p2, o2⟩ := OkG.new o R n (u := .dK kvs) ⟨_, r.mono (pre.app _ _), upd_same⟩
      exact o2 _ _ _ p2 R2 (.ref e2)
    | none =>
      rw [e] at o
      dsimp only at o
      cases e1 : lstL x h with
      | none => rw [e1] at o; exact o.elim
      | some ys =>
        rw [e1] at o
        cases ys with
        | cons _ _ => exact o.elim
        | nil =>
          obtain ⟨a, vs, _, _, rfl, zs, hh⟩ := lstL_ok R z0 e1
          cases zs
          refine .inr ⟨a, [], [], rfl, SqL.of hh, .nil, fun p n => ?_⟩
          obtain ⟨R2, e2, p2, o2⟩ := OkG.new o R n (u := .dK []) ⟨[], .nil, upd_same⟩
          exact o2 _ _ _ p2 R2 (.ref e2)
/-! {k: v} -/
def eDisp1 (fk fv : LS → LH → Out LV) : LS → LH → Out LV := fun l h => h.new (.dic []) fun n h1 => (fk l h1).bind fun x h2 => (fv l h2).bind fun y h3 => match keyL x with
  | some k => match h3.t.get n with
    | some (.dic []) => h3.upd n (.dic [(k, y)]) fun h4 => .ok (.ref n) h4
    | _ => .no
  | none => .no
theorem e_disp1 (ha : TrE C E X a fa) (hb : TrE C E X b fb) : TrE C E X (.Dict [some a] [b] pos) (eDisp1 fa fb) := by
  obtain ⟨t, p, i⟩ := ha
  obtain ⟨t', q, j⟩ := hb
  refine ⟨_, pe_disp (pps_cons p q pps_nil) rfl rfl (by simp) (by simp), fun ρ h H l σ Q R S o pp n => ?_⟩
  obtain ⟨R1, e1, p1, o1⟩ := OkG.new o R n (u := .dK []) ⟨[], .nil, upd_same⟩
  refine i _ _ _ l σ _ R1 (S.mono p1) ((o1.mono p1).bind fun x h2 ρ2 H2 u p2 R2 z2 o2 => j ρ2 h2 H2 l σ _ R2 ((S.mono p1).mono p2) (o2.bind fun y h3 ρ3 H3 v p3 R3 z3 o3 => ?_))
  cases e2 : keyL x with
  | none => rw [e2] at o3; exact o3.elim
  | some k =>
    rw [e2] at o3
    dsimp only at o3
    have e3 := p3 _ _ (p2 _ _ e1)
    obtain ⟨ob, ho, r⟩ := R3.obj e3
    rw [ho] at o3
    cases ob with
    | dic d =>
      cases d with
      | cons _ _ => exact o3.elim
      | nil =>
        obtain ⟨vs, zs, hp⟩ := r
        cases zs
        dsimp only at o3
        refine ⟨hp, [(kOf k, v)], by rw [keyL_ok z2 e2]; rfl, by simp, ?_⟩
        have hm : mergeK [] [(kOf k, v)] = [(kOf k, v)] := rfl
        rw [hm]
        obtain ⟨R4, o4⟩ := OkG.upd (u' := .dK [(kOf k, v)]) o3 R3 e3 hp thing_dK ⟨_, .cons ⟨rk_of k, z3⟩ .nil, upd_same⟩
        exact o4.here R4 (.ref e3)
    | _ => exact o3.elim
/-! setdefault -/
def eSetd (fo fa fb : LS → LH → Out LV) : LS → LH → Out LV := fun l h => (fo l h).bind fun x h1 => match dicL x h1 with
  | some _ => (fa l h1).bind fun y h2 => (fb l h2).bind fun z h3 => match dicW x h3 with
    | some d => match keyL y with
      | some k => match Nat.blt d.length 100000 with
        | true => match getL d k with
          | some v => .ok v h3
          | none => h3.upd (idL x) (.dic (putL d k z)) fun h4 => .ok z h4
        | false => .no
      | none => .no
    | none => .no
  | none => .no
theorem e_setd {o : Expr} {fo : LS → LH → Out LV} {apos : Pos} (ho : TrE C E X o fo) (ha : TrE C E X a fa) (hb : TrE C E X b fb) (m : M2 X o "setdefault" apos a b pos := by exact ⟨rfl, rfl, rfl, rfl⟩) :
    TrE C E X (.Call (.Attribute o "setdefault" apos) [a, b] [] pos) (eSetd fo fa fb) := by
  obtain ⟨t, p, i⟩ := ho
  obtain ⟨t', q, j⟩ := ha
  obtain ⟨t2, s, k⟩ := hb
  refine ⟨_, pe_dsetd p q s m, fun ρ h H l σ Q R S o => i ρ h H l σ _ R S (o.bind fun x h1 ρ1 H1 u p1 R1 z1 o1 => ?_)⟩
  cases e1 : dicL x h1 with
  | none => rw [e1] at o1; exact o1.elim
  | some d0 =>
    rw [e1] at o1
    dsimp only at o1
    obtain ⟨A, kvs0, rfl, _, hd0⟩ := dicL_ok R1 z1 e1
    refine ⟨A, rfl, .inl ⟨kvs0, hd0⟩, j ρ1 h1 H1 l σ _ R1 (S.mono p1) (o1.bind fun y h2 ρ2 H2 v p2 R2 z2 o2 => k ρ2 h2 H2 l σ _ R2 ((S.mono p1).mono p2) (o2.bind fun z h3 ρ3 H3 w p3 R3 z3 o3 => ?_))⟩
    cases e2 : dicW x h3 with
    | none => rw [e2] at o3; exact o3.elim
    | some d =>
      rw [e2] at o3
      dsimp only at o3
      cases e3 : keyL y with
      | none => rw [e3] at o3; exact o3.elim
      | some kk =>
        rw [e3] at o3
        dsimp only at o3
        cases e4 : Nat.blt d.length 100000 with
        | false => rw [e4] at o3; exact o3.elim
        | true =>
          rw [e4] at o3
          dsimp only at o3
          obtain ⟨B, kvs, hA, _, eB, r, hd⟩ := dicW_ok R3 (z1.mono (p2.trans p3)) e2
          cases eB
          have := blt_lt e4
          have hl : kvs.length < sizeLine := by rw [← Paired.length r, sizeLine_eq]; omega
          obtain ⟨g1, g2⟩ := getL_ok kk r
          cases e5 : getL d kk with
          | some g =>
            rw [e5] at o3
            obtain ⟨t, et, rt⟩ := g1 g e5
            exact ⟨kvs, kOf kk, hd, keyL_ok (z2.mono p3) e3, hl, fun v' hv' => (by rw [et] at hv'; cases hv'; exact o3.here R3 rt), fun hn => (by rw [et] at hn; cases hn)⟩
          | none =>
            rw [e5] at o3
            have et := g2 e5
            refine ⟨kvs, kOf kk, hd, keyL_ok (z2.mono p3) e3, hl, fun v' hv' => (by rw [et] at hv'; cases hv'), fun _ => ?_⟩
            obtain ⟨R4, o4⟩ := OkG.upd (u' := .dK (putK kvs (kOf kk) w)) o3 R3 hA hd thing_dK ⟨_, putL_ok kk r z3, upd_same⟩
            exact o4.here R4 z3
/-! update -/
def mergeL (d : LD) : LD → LD
  | [] => d
  | (k, v) :: r => mergeL (putL d k v) r
theorem mergeL_ok : ∀ {m : LD} {ms : List (Key × V)} {d : LD} {ks : List (Key × V)}, RKVs ρ m ms → RKVs ρ d ks → RKVs ρ (mergeL d m) (mergeK ks ms)
  | _, _, _, _, .nil, r => r
  | _, _, _, _, .cons (a := (j, w)) (b := (kk, u)) q t, r => by
    have ek : kk = kOf j := q.1.eq
    subst ek
    exact (show RKVs ρ (mergeL (putL _ j w) _) (mergeK (putK _ (kOf j) u) _) from mergeL_ok t (putL_ok j r q.2))
def rUpdD : V → List V → Hp → VK → Prop := fun x xs H Q => ∃ (a b : Addr) (kvs ms : List (Key × V)), x = .ref a ∧ xs = [.ref b] ∧ a ≠ b ∧ H a = some (.dK kvs) ∧ H b = some (.dK ms) ∧ kvs.length + ms.length ≤ sizeLine ∧ Q .non (upd H a (.dK (mergeK kvs ms)))
theorem mt_updD : MtR X "dict.update" rUpdD := by
  intro pins s σ H x xs v us Q I rx rs h
  obtain ⟨a, b, kvs, ms, rfl, rfl, ne, ha, hb, hz, q⟩ := h
  cases rx
  obtain ⟨u, rfl, ru⟩ := rs.one
  cases ru
  obtain ⟨z1, hd1, vs1, r1, d1⟩ := dk_of I.hok ha
  obtain ⟨z2, hd2, vs2, r2, d2⟩ := dk_of I.hok hb
  have l1 := r1.length
  have l2 := r2.length
  refine call_meetsIn PySem.F.slot_dict_update d1.typeIs PySem.F.entry_dict_update (PySem.F.args_dict_update_2 _ _) (meets_dict_update (mixKind X.prog X.w) a b ne hd2) ⟨vs1, vs2, d1, d2, by omega, fun h' e1 e2 sb => ?_⟩
  have he : ∃ q, h'.get? a = some q := let ⟨q, _, _, hq, _⟩ := e1; ⟨q, hq⟩
  have hl : (mergeK kvs ms).length ≤ sizeLine := Nat.le_trans (length_mergeK ms kvs) hz
  exact ⟨.non, _, d_write (t' := s.toks) I (by rw [ha]; exact True.intro) sb he (dk_new hl hd1 (KV.merge r2 r1) e1), rfl, q⟩
def gUpdD : LV → List LV → LH → Out LV := fun x xs h => match xs with
  | [y] => match dicW x h with
    | some d => match dicW y h with
      | some m => match !Nat.beq (idL x) (idL y) && Nat.blt (d.length + m.length) 100000 with
        | true => h.upd (idL x) (.dic (mergeL d m)) fun h1 => .ok .non h1
        | false => .no
      | none => .no
    | none => .no
  | _ => .no
theorem im_updD : ImM C E rUpdD gUpdD := fun ρ h H x u xs us Q R z1 z2 o => by
  match xs, z2, o with
  | [], _, o => exact o.elim
  | _ :: _ :: _, _, o => exact o.elim
  | [y], z2, o =>
    obtain ⟨v, rfl, z⟩ := z2.one_
    unfold gUpdD at o
    dsimp only at o
    cases e : dicW x h with
    | none => rw [e] at o; exact o.elim
    | some d =>
      rw [e] at o
      dsimp only at o
      cases e1 : dicW y h with
      | none => rw [e1] at o; exact o.elim
      | some m =>
        rw [e1] at o
        dsimp only at o
        cases e2 : !Nat.beq (idL x) (idL y) && Nat.blt (d.length + m.length) 100000 with
        | false => rw [e2] at o; exact o.elim
        | true =>
          rw [e2] at o
          rw [Bool.and_eq_true] at e2
          have q2 := blt_lt e2.2
          obtain ⟨a, kvs, ha, _, rfl, r, hd⟩ := dicW_ok R z1 e
          obtain ⟨b, ms, hb, _, rfl, r2, hd2⟩ := dicW_ok R z e1
          rw [Paired.length r, Paired.length r2] at q2
          have ne : a ≠ b := fun w => by
            subst w
            obtain ⟨h1, e1⟩ := List.getElem?_eq_some_iff.mp ha
            obtain ⟨h2, e2'⟩ := List.getElem?_eq_some_iff.mp hb
            have := (List.getElem_inj R.nd).mp (e1.trans e2'.symm)
            rw [this, Nat.beq_refl] at e2
            exact absurd e2.1 (by decide)
          refine ⟨a, b, kvs, ms, rfl, rfl, ne, hd, hd2, (by rw [sizeLine_eq]; omega), ?_⟩
          obtain ⟨R4, o4⟩ := OkG.upd (u' := .dK (mergeK kvs ms)) o R ha hd thing_dK ⟨_, mergeL_ok r2 r, upd_same⟩
          exact o4.here R4 .non
end
end MR
set_option maxHeartbeats 4000000
/-! Mirror 7: iterators, loops, comprehensions, targets of several names. -/
namespace MR
open PySem PySem.Spec PyProof.Rows L2

/-- what a turn gives: an end, a value, a new tuple -/
inductive NR where
  | stop | item (v : LV) | newT (vs : List LV) | no
abbrev Nxt := Nat → LH → NR
/-- an iterator by its mirror -/
def ImJ (C : Cst) (ρ : List Addr) (nx : Nxt) (J : It) : Prop := ∀ (ρ' : List Addr) (h : LH) (H : Hp) (i : Nat), pre ρ ρ' → Rel C ρ' h H → match nx i h with
  | .stop => J.stop i H
  | .item v => J.go i H ∧ ∀ x H', J.yld i H x H' → H' = H ∧ RV ρ' v x
  | .newT vs => J.go i H ∧ ∀ x H', J.yld i H x H' → ∃ T us, x = .ref T ∧ H T = none ∧ H' = upd H T (.tup us) ∧ RVs ρ' vs us
  | .no => True
def ImI (C : Cst) (E : XK) (wi : TI) (f : LS → LH → Out Nxt) : Prop := ∀ (ρ : List Addr) (h : LH) (H : Hp) (l : LS) (σ : L2.St) (R : It → Hp → Prop), Rel C ρ h H → RSl ρ l σ → OkG C E (ImJ C) ρ (f l h) R → wi σ H R
def TrI (C : Cst) (E : XK) (X : Cx) (tg iter : Expr) (f : LS → LH → Out Nxt) : Prop := ∃ wi, PI X tg iter wi ∧ ImI C E wi f
def nxL (o : Option (List LV)) (i : Nat) : NR := match o with
  | some xs => match xs[i]? with
    | some v => .item v
    | none => .stop
  | none => .no
def iSeq (g : LV → LH → Option (List LV)) (f : LS → LH → Out LV) : LS → LH → Out Nxt := fun l h => (f l h).bind fun v h1 => match g v h1 with
  | some _ => .ok (fun i h => nxL (g v h) i) h1
  | none => .no
theorem get_none {α : Type} {xs : List α} {i : Nat} (h : xs[i]? = none) : xs.length ≤ i := List.getElem?_eq_none_iff.mp h
section
variable {C : Cst} {E : XK} {X : Cx} {tg e e2 : Expr} {f f2 : LS → LH → Out LV} {p pos tpos : Pos}
theorem RVs.none_ {ρ : List Addr} {xs : List LV} {vs : List V} (z : RVs ρ xs vs) {j : Nat} (e : xs[j]? = none) : vs.length ≤ j := by
  rw [← z.length]; exact get_none e
theorem i_tup (he : TrE C E X e f) : TrI C E X tg e (iSeq tupL f) := by
  obtain ⟨t, p, i⟩ := he
  refine ⟨_, pi_tup p, fun ρ h H l σ R Rl S o => i ρ h H l σ _ Rl S (o.bind fun v h1 ρ1 H1 u p1 R1 z o1 => ?_)⟩
  cases e : tupL v h1 with
  | none => rw [e] at o1; exact o1.elim
  | some xs =>
    rw [e] at o1
    obtain ⟨a, vs, ha, ev, rfl, zs, hh⟩ := tupL_ok R1 z e
    refine ⟨a, rfl, ⟨vs, SqT.of hh⟩, o1.here R1 fun ρ' h' H' i p' R' => ?_⟩
    show match nxL (tupL v h') i with
      | .stop => _ | .item v => _ | .newT vs => _ | .no => True
    unfold nxL
    cases e' : tupL v h' with
    | none => exact trivial
    | some ys =>
      obtain ⟨b, us, hb, _, eu, zu, hu⟩ := tupL_ok R' (z.mono p') e'
      cases eu
      dsimp only
      cases q : ys[i]? with
      | none => exact ⟨us, SqT.of hu, zu.none_ q⟩
      | some w =>
        obtain ⟨w', hw, zw⟩ := zu.nth_ q
        exact ⟨⟨us, w', SqT.of hu, hw⟩, fun x H2 y => ⟨y.1, by have := y.2 us (SqT.of hu); rw [hw] at this; cases this; exact zw⟩⟩
theorem i_lst (he : TrE C E X e f) : TrI C E X tg e (iSeq lstL f) := by
  obtain ⟨t, p, i⟩ := he
  refine ⟨_, pi_list p, fun ρ h H l σ R Rl S o => i ρ h H l σ _ Rl S (o.bind fun v h1 ρ1 H1 u p1 R1 z o1 => ?_)⟩
  cases e : lstL v h1 with
  | none => rw [e] at o1; exact o1.elim
  | some xs =>
    rw [e] at o1
    obtain ⟨a, vs, ha, ev, rfl, zs, hh⟩ := lstL_ok R1 z e
    refine ⟨a, rfl, ⟨vs, SqL.of hh⟩, o1.here R1 fun ρ' h' H' i p' R' => ?_⟩
    show match nxL (lstL v h') i with
      | .stop => _ | .item v => _ | .newT vs => _ | .no => True
    unfold nxL
    cases e' : lstL v h' with
    | none => exact trivial
    | some ys =>
      obtain ⟨b, us, hb, _, eu, zu, hu⟩ := lstL_ok R' (z.mono p') e'
      cases eu
      dsimp only
      cases q : ys[i]? with
      | none => exact ⟨us, SqL.of hu, zu.none_ q⟩
      | some w =>
        obtain ⟨w', hw, zw⟩ := zu.nth_ q
        exact ⟨⟨us, w', SqL.of hu, hw⟩, fun x H2 y => ⟨y.1, by have := y.2 us (SqL.of hu); rw [hw] at this; cases this; exact zw⟩⟩
def iText (f : LS → LH → Out LV) : LS → LH → Out Nxt := fun l h => (f l h).bind fun v h1 => match v with
  | .str x => .ok (fun i _ => match x[i]? with
    | some c => .item (.str [c])
    | none => .stop) h1
  | _ => .no
theorem i_str (he : TrE C E X e f) : TrI C E X tg e (iText f) := by
  obtain ⟨t, p, i⟩ := he
  refine ⟨_, pi_str p, fun ρ h H l σ R Rl S o => i ρ h H l σ _ Rl S (o.bind fun v h1 ρ1 H1 u p1 R1 z o1 => ?_)⟩
  cases z with
  | str x =>
    refine ⟨_, rfl, o1.here R1 fun ρ' h' H' i p' R' => ?_⟩
    dsimp only
    cases q : x[i]? with
    | none => exact get_none q
    | some c =>
      have hi := (List.getElem?_eq_some_iff.mp q).1
      refine ⟨hi, fun y H2 z => ?_⟩
      obtain ⟨e1, c', e2, e3⟩ := z
      have e2 : x[i]? = some c' := by
        rw [← e2]; simp
      rw [q] at e2; cases e2
      exact ⟨e1, by rw [e3]; exact .str [c]⟩
  | _ => exact o1.elim
def nxR (lo : Int) (n : Nat) : Nxt := fun i _ => match Nat.blt i n with
  | true => .item (.int (lo + i))
  | false => .stop
def iRange1 (fs : LS → LH → Out (List LV)) : LS → LH → Out Nxt := fun l h => (fs l h).bind fun vs h1 => match vs with
  | [.int j] => match decide (-100000 ≤ j ∧ j < 100000) with
    | true => .ok (nxR 0 j.toNat) h1
    | false => .no
  | _ => .no
def iRange2 (fs : LS → LH → Out (List LV)) : LS → LH → Out Nxt := fun l h => (fs l h).bind fun vs h1 => match vs with
  | [.int i, .int j] => match decide (-100000 ≤ j ∧ j < 100000 ∧ -100000 ≤ i ∧ i < 100000) with
    | true => .ok (nxR i (j - i).toNat) h1
    | false => .no
  | _ => .no
theorem nxR_ok {ρ : List Addr} (lo : Int) (n : Nat) : ImJ C ρ (nxR lo n) (Itr lo n) := fun ρ' h H i p R => by
  show match (match Nat.blt i n with
    | true => NR.item (.int (lo + i))
    | false => .stop) with
    | .stop => _ | .item v => _ | .newT vs => _ | .no => True
  cases e : Nat.blt i n with
  | true => exact ⟨blt_lt e, fun x H' y => ⟨y.1, by rw [y.2]; exact .int _⟩⟩
  | false =>
    show n ≤ i
    refine Nat.le_of_not_lt fun hlt => ?_
    have : Nat.blt i n = true := Nat.ble_eq_true_of_le hlt
    rw [e] at this; cases this
variable {es : List Expr} {fs : LS → LH → Out (List LV)}
theorem i_range1 (hm : X.mg "range" = none) (ha : TrA C E X [e] fs) (hg : Gl X "range" := by rfl) (hs : starEach [e] X.env = [(false, eval e X.env)] := by rfl) : TrI C E X tg (.Call (.Name "range" p) [e] [] pos) (iRange1 fs) := by
  obtain ⟨t, q, i⟩ := ha
  refine ⟨_, pi_range1 hg hm q hs, fun ρ h H l σ R Rl S o => i ρ h H l σ _ Rl S (o.bind fun vs h1 ρ1 H1 us p1 R1 z o1 => ?_)⟩
  split at o1
  · obtain ⟨u, rfl, z1⟩ := z.one_
    cases z1
    split at o1
    · rename_i j hd
      have := of_decide_eq_true hd
      exact ⟨_, rfl, by omega, by omega, o1.here R1 (nxR_ok _ _)⟩
    · exact o1.elim
  · exact o1.elim
theorem i_range2 (hm : X.mg "range" = none) (ha : TrA C E X [e, e2] fs) (hg : Gl X "range" := by rfl) (hs : starEach [e, e2] X.env = [(false, eval e X.env), (false, eval e2 X.env)] := by rfl) (hs2 : starEach [e2] X.env = [(false, eval e2 X.env)] := by rfl) :
    TrI C E X tg (.Call (.Name "range" p) [e, e2] [] pos) (iRange2 fs) := by
  obtain ⟨t, q, i⟩ := ha
  refine ⟨_, pi_range2 hg hm q hs hs2, fun ρ h H l σ R Rl S o => i ρ h H l σ _ Rl S (o.bind fun vs h1 ρ1 H1 us p1 R1 z o1 => ?_)⟩
  split at o1
  · obtain ⟨u, v, rfl, z1, z2⟩ := z.two_
    cases z1; cases z2
    split at o1
    · rename_i j hd
      have := of_decide_eq_true hd
      exact ⟨_, _, rfl, by omega, o1.here R1 (nxR_ok _ _)⟩
    · exact o1.elim
  · exact o1.elim
/-! a locked dict's keys, its values -/
def frzL (v : LV) (h : LH) : Option LD := match v with
  | .ref i => match h.t.get i with
    | some (.frz d) => some d
    | _ => none
  | _ => none
def iDict (g : LK × LV → LV) (f : LS → LH → Out LV) : LS → LH → Out Nxt := fun l h => (f l h).bind fun v h1 => match frzL v h1 with
  | some d => .ok (fun i h => match frzL v h with
    | some _ => nxL (some (d.map g)) i
    | none => .no) h1
  | none => .no
theorem frzL_ok {ρ : List Addr} {h : LH} {H : Hp} {v : LV} {u : V} {d : LD} (R : Rel C ρ h H) (z : RV ρ v u) (e : frzL v h = some d) : ∃ a kvs o, u = .ref a ∧ RKVs ρ d kvs ∧ H a = some (.frz o (.dK kvs)) ∧ (a, HO.frz o (.dK kvs)) ∈ C.frz := by
  cases z with
  | @ref i a ha =>
    obtain ⟨o, ho, r⟩ := R.obj ha
    unfold frzL at e
    dsimp only at e
    rw [ho] at e
    cases o with
    | frz ys => cases e; obtain ⟨vs, o, p, q, m⟩ := r; exact ⟨a, vs, o, rfl, p, q, m⟩
    | _ => cases e
  | _ => cases e
theorem kv_nth {ρ : List Addr} {d : LD} {kvs : List (Key × V)} (z : RKVs ρ d kvs) {j : Nat} {p : LK × LV} (e : d[j]? = some p) : ∃ q, kvs[j]? = some q ∧ RK p.1 q.1 ∧ RV ρ p.2 q.2 := by
  induction z generalizing j with
  | nil => cases e
  | cons r t ih =>
    cases j with
    | zero => cases e; exact ⟨_, rfl, r⟩
    | succ j => exact ih e
theorem i_keys (he : TrE C E X e f) : TrI C E X tg e (iDict (fun p => lvK p.1) f) := by
  obtain ⟨t, p, i⟩ := he
  refine ⟨_, pi_keys p, fun ρ h H l σ R Rl S o => i ρ h H l σ _ Rl S (o.bind fun v h1 ρ1 H1 u p1 R1 z o1 => ?_)⟩
  cases e : frzL v h1 with
  | none => rw [e] at o1; exact o1.elim
  | some d =>
    rw [e] at o1
    obtain ⟨a, kvs, od, rfl, zs, hh, hm⟩ := frzL_ok R1 z e
    refine ⟨a, od, rfl, .inl ⟨kvs, hh, o1.here R1 fun ρ' h' H' i p' R' => ?_⟩⟩
    have hH := (R'.frz _ hm).1
    dsimp only at hH
    dsimp only
    cases e' : frzL v h' with
    | none => exact trivial
    | some d' =>
      unfold nxL
      dsimp only
      cases q : (d.map fun p => lvK p.1)[i]? with
      | none =>
        refine ⟨hH, ?_⟩
        have := get_none q
        rw [List.length_map, Paired.length zs] at this
        exact this
      | some w =>
        rw [List.getElem?_map] at q
        obtain ⟨kv, q1, q2⟩ := Option.map_eq_some_iff.mp q
        obtain ⟨kv', h1, h2, h3⟩ := kv_nth zs q1
        refine ⟨⟨hH, (List.getElem?_eq_some_iff.mp h1).1⟩, fun x H2 y => ⟨y.1, ?_⟩⟩
        obtain ⟨_, k, v', y1, y2⟩ := y
        rw [h1] at y1; cases y1
        rw [y2, ← q2]
        exact lvK_ok h2
theorem i_vals {apos cpos : Pos} (he : TrE C E X e f) (hbase : attributeBase e "values" X.env (eval e X.env) = eval e X.env := by rfl) (hline : (apos.endLine == cpos.line) = true := by rfl) : TrI C E X tg (.Call (.Attribute e "values" apos) [] [] cpos) (iDict (fun p => p.2) f) := by
  obtain ⟨t, p, i⟩ := he
  refine ⟨_, pi_values p hbase hline, fun ρ h H l σ R Rl S o => i ρ h H l σ _ Rl S (o.bind fun v h1 ρ1 H1 u p1 R1 z o1 => ?_)⟩
  cases e : frzL v h1 with
  | none => rw [e] at o1; exact o1.elim
  | some d =>
    rw [e] at o1
    obtain ⟨a, kvs, od, rfl, zs, hh, hm⟩ := frzL_ok R1 z e
    refine ⟨a, od, kvs, rfl, hh, o1.here R1 fun ρ' h' H' i p' R' => ?_⟩
    have hH := (R'.frz _ hm).1
    dsimp only at hH
    dsimp only
    cases e' : frzL v h' with
    | none => exact trivial
    | some d' =>
      unfold nxL
      dsimp only
      cases q : (d.map fun p => p.2)[i]? with
      | none =>
        refine ⟨hH, ?_⟩
        have := get_none q
        rw [List.length_map, Paired.length zs] at this
        exact this
      | some w =>
        rw [List.getElem?_map] at q
        obtain ⟨kv, q1, q2⟩ := Option.map_eq_some_iff.mp q
        obtain ⟨kv', h1, h2, h3⟩ := kv_nth zs q1
        refine ⟨⟨hH, (List.getElem?_eq_some_iff.mp h1).1⟩, fun x H2 y => ⟨y.1, ?_⟩⟩
        obtain ⟨_, k, y1⟩ := y
        rw [h1] at y1; cases y1
        rw [← q2]
        exact h3.mono p'
/-! zip of two lists -/
def iZip2 (fs : LS → LH → Out (List LV)) : LS → LH → Out Nxt := fun l h => (fs l h).bind fun vs h1 => match vs with
  | [x, y] => match lstL x h1 with
    | some _ => match lstL y h1 with
      | some _ => .ok (fun i h => match lstL x h with
        | some xs => match lstL y h with
          | some ys => match xs[i]? with
            | some a => match ys[i]? with
              | some b => .newT [a, b]
              | none => .stop
            | none => .stop
          | none => .no
        | none => .no) h1
      | none => .no
    | none => .no
  | _ => .no
theorem i_zip2 {elts : List Expr} {kk : Nat} (hm : X.mg "zip" = none) (ha : TrA C E X [e, e2] fs) (hg : Gl X "zip" := by rfl) (hs : starEach [e, e2] X.env = (false, eval e X.env) :: starEach [e2] X.env := by rfl) (hpl : (backTo pos (starEach [e2] X.env)).any (·.1) = false := by rfl) :
    TrI C E X (.Tuple elts kk tpos) (.Call (.Name "zip" p) [e, e2] [] pos) (iZip2 fs) := by
  obtain ⟨t, q, i⟩ := ha
  refine ⟨_, pi_zip hg hm q hs hpl, fun ρ h H l σ R Rl S o => i ρ h H l σ _ Rl S (o.bind fun vs h1 ρ1 H1 us p1 R1 z o1 => ?_)⟩
  split at o1
  · rename_i x y
    obtain ⟨u, v, rfl, z1, z2⟩ := z.two_
    cases e1 : lstL x h1 with
    | none => rw [e1] at o1; exact o1.elim
    | some xs =>
      rw [e1] at o1
      dsimp only at o1
      cases e2 : lstL y h1 with
      | none => rw [e2] at o1; exact o1.elim
      | some ys =>
        rw [e2] at o1
        obtain ⟨a, vs, _, _, rfl, zs, hh⟩ := lstL_ok R1 z1 e1
        obtain ⟨b, ws, _, _, rfl, zt, hk⟩ := lstL_ok R1 z2 e2
        refine ⟨a, b, vs, ws, rfl, SqL.of hh, SqL.of hk, o1.here R1 fun ρ' h' H' i p' R' => ?_⟩
        dsimp only
        cases e1' : lstL x h' with
        | none => exact trivial
        | some xs' =>
          dsimp only
          cases e2' : lstL y h' with
          | none => exact trivial
          | some ys' =>
            dsimp only
            obtain ⟨_, vs', _, _, q1, zs', hh'⟩ := lstL_ok R' (z1.mono p') e1'
            obtain ⟨_, ws', _, _, q2, zt', hk'⟩ := lstL_ok R' (z2.mono p') e2'
            cases q1; cases q2
            cases k1 : xs'[i]? with
            | none => exact ⟨vs', ws', SqL.of hh', SqL.of hk', .inl (zs'.none_ k1)⟩
            | some p =>
              dsimp only
              cases k2 : ys'[i]? with
              | none => exact ⟨vs', ws', SqL.of hh', SqL.of hk', .inr (zt'.none_ k2)⟩
              | some q =>
                obtain ⟨p', hp, zp⟩ := zs'.nth_ k1
                obtain ⟨q', hq, zq⟩ := zt'.nth_ k2
                refine ⟨⟨vs', ws', p', q', SqL.of hh', SqL.of hk', hp, hq⟩, fun x H2 y => ?_⟩
                obtain ⟨T, x1, y1, ex, hn, hH, g1, g2⟩ := y
                have g1 := g1 _ (SqL.of hh')
                have g2 := g2 _ (SqL.of hk')
                rw [hp] at g1; rw [hq] at g2
                cases g1; cases g2
                exact ⟨T, _, ex, hn, hH, .cons zp (.cons zq .nil)⟩
  · exact o1.elim
end
end MR
set_option maxHeartbeats 4000000
/-! Mirror 8: targets of several names, loops, comprehensions, a dict locked while it is walked. -/
namespace MR
open PySem PySem.Spec PyProof.Rows L2

theorem Fr.refl (σ : L2.St) (is : List Nat) : Fr is σ σ := ⟨rfl, fun _ _ => rfl⟩
theorem Fr.app {σ σ1 σ2 : L2.St} {is js : List Nat} (a : Fr is σ σ1) (b : Fr js σ1 σ2) : Fr (is ++ js) σ σ2 := ⟨b.1.trans a.1, fun j hj => by
  rw [List.mem_append, not_or] at hj
  exact (b.2 j hj.2).trans (a.2 j hj.1)⟩
def gsNil : List LV → LS → LH → Out LS := fun vs l h => match vs with
  | [] => .ok l h
  | _ => .no
def gsCons (f : LV → LS → LH → Out LS) (g : List LV → LS → LH → Out LS) : List LV → LS → LH → Out LS := fun vs l h => match vs with
  | v :: r => (f v l h).bind fun l1 h1 => g r l1 h1
  | [] => .no
def gT (n : Nat) (g : List LV → LS → LH → Out LS) : LV → LS → LH → Out LS := fun v l h => match tupL v h with
  | some xs => match Nat.beq xs.length n with
    | true => g xs l h
    | false => .no
  | none => .no
section
variable {C : Cst} {E : XK} {X : Cx} {pos : Pos} {e : Expr} {es : List Expr} {is js : List Nat} {f : LV → LS → LH → Out LS} {g : List LV → LS → LH → Out LS}
theorem gs_nil : TrGs C E X [] [] gsNil := ⟨_, pgs_nil, fun ρ h H v u l σ Q R z S o => by
  cases z with
  | nil => exact ⟨rfl, o.here R ⟨S, Fr.refl σ _⟩⟩
  | cons _ _ => exact o.elim⟩
theorem gs_cons (h1 : TrG C E X e is f) (h2 : TrGs C E X es js g) (hs : (assignEach (e :: es) X.env).map (·.2) = assign e X.env :: (assignEach es X.env).map (·.2) := by rfl) : TrGs C E X (e :: es) (is ++ js) (gsCons f g) := by
  obtain ⟨t, p, i⟩ := h1
  obtain ⟨t', q, j⟩ := h2
  refine ⟨_, pgs_cons p q hs, fun ρ h H v u l σ Q R z S o => ?_⟩
  cases z with
  | nil => exact o.elim
  | cons r t =>
    have o : OkG C E (RSf (is ++ js) σ) ρ ((f _ l h).bind fun l1 h1 => g _ l1 h1) Q := o
    refine ⟨_, _, rfl, i ρ h H _ _ l σ _ R r S (o.bind fun l1 h1 ρ1 H1 σ1 p1 R1 S1 o1 => j ρ1 h1 H1 _ _ l1 σ1 _ R1 (RVs.mono p1 t) S1.1 ?_)⟩
    revert o1
    generalize g _ l1 h1 = xx
    intro o1
    cases xx with
    | ok l2 h2 => exact fun ρ' H' σ2 p R S2 => o1 ρ' H' σ2 p R ⟨S2.1, S1.2.app S2.2⟩
    | ex c d h => exact o1
    | no => exact o1
theorem g_tup {k n : Nat} (hc : X.calm = true) (h : TrGs C E X es is g) (hn : (assignEach es X.env).length = n := by rfl) (hst : (assignEach es X.env).findIdx? (·.1) = none := by rfl) : TrG C E X (.Tuple es k pos) is (gT n g) := by
  obtain ⟨t, p, i⟩ := h
  refine ⟨_, pg_tup hc p hn hst, fun ρ h H v u l σ Q R z S o => ?_⟩
  unfold gT at o
  cases e : tupL v h with
  | none => rw [e] at o; exact o.elim
  | some xs =>
    rw [e] at o
    dsimp only at o
    cases e2 : Nat.beq xs.length n with
    | false => rw [e2] at o; exact o.elim
    | true =>
      rw [e2] at o
      obtain ⟨a, vs, _, _, rfl, zs, hh⟩ := tupL_ok R z e
      exact ⟨a, vs, rfl, SqT.of hh, by rw [← zs.length]; exact Nat.eq_of_beq_eq_true e2, i ρ h H xs vs l σ Q R zs S o⟩
end

/-! ### loops -/
/-- a turn's item -/
def turnM {α : Type} (r : NR) (h : LH) (stop : Out α) (k : LV → LH → Out α) : Out α := match r with
  | .stop => stop
  | .item v => k v h
  | .newT vs => match Nat.blt vs.length 1000 with
    | true => h.new (.tup vs) fun n h1 => k (.ref n) h1
    | false => .no
  | .no => .no
def loopF (nx : Nxt) (g : LV → LS → LH → Out LS) (b : LS → LH → Out LF) : Nat → Nat → LS → LH → Out LF
  | 0, _, _, _ => .no
  | n + 1, i, l, h => turnM (nx i h) h (.ok (.nx l) h) fun v h1 => (g v l h1).bind fun l1 h2 => (b l1 h2).bind fun r h3 => match r with
    | .nx l2 => loopF nx g b n (i + 1) l2 h3
    | .ct l2 => loopF nx g b n (i + 1) l2 h3
    | .bk l2 => .ok (.nx l2) h3
    | .rt v => .ok (.rt v) h3
def sFor (fi : LS → LH → Out Nxt) (g : LV → LS → LH → Out LS) (b : LS → LH → Out LF) : LS → LH → Out LF := fun l h => (fi l h).bind fun nx h1 => loopF nx g b 1000 0 l h1
theorem endsNew {C : Cst} {E : XK} {h : LH} {H : Hp} {ρ : List Addr} {o : LO} {k : Nat → LH → Out LF} {D : Ends} (x : EndsOk C E ρ D (h.new o k)) (R : Rel C ρ h H) {p : Addr} {u : HO} (n : H p = none) (r : RO C (ρ ++ [p]) (upd H p u) p o) :
    Rel C (ρ ++ [p]) ⟨h.n + 1, h.t.put 20 h.n o⟩ (upd H p u) ∧ (ρ ++ [p])[h.n]? = some p ∧ pre ρ (ρ ++ [p]) ∧ EndsOk C E ρ D (k h.n ⟨h.n + 1, h.t.put 20 h.n o⟩) := by
  unfold LH.new at x
  rw [frN_eq] at x
  cases e : Nat.blt h.n 1000000 with
  | false => rw [e] at x; exact x.elim
  | true =>
    rw [e] at x
    refine ⟨R.new n (fun b w hb => by rw [upd_ne (ne_of_none hb n)]; exact hb) r (by have := blt_lt e; omega), ?_, pre.app ρ p, x⟩
    rw [← R.len, List.getElem?_append_right (Nat.le_refl _)]; simp
/-- the body of a turn -/
theorem EndsOk.turn {C : Cst} {E : XK} {ρ : List Addr} {x : Out LF} {D : Ends} {N : L2.St → Hp → Prop} {k : LS → LH → Out LF}
    (o : EndsOk C E ρ D (x.bind fun r h3 => match r with
      | .nx l2 => k l2 h3
      | .ct l2 => k l2 h3
      | .bk l2 => .ok (.nx l2) h3
      | .rt v => .ok (.rt v) h3))
    (hN : ∀ ρ' h' H' l' σ', pre ρ ρ' → Rel C ρ' h' H' → RSl ρ' l' σ' → EndsOk C E ρ' D (k l' h') → N σ' H') : EndsOk C E ρ { D with nx := N, ct := N, bk := D.nx } x := by
  cases x with
  | no => exact o
  | ex c d h => exact o
  | ok fl h =>
    cases fl with
    | nx l1 => exact fun ρ1 H1 p R σ S => hN ρ1 h H1 l1 σ p R S (EndsOk.mono (x := k l1 h) o p)
    | ct l1 => exact fun ρ1 H1 p R σ S => hN ρ1 h H1 l1 σ p R S (EndsOk.mono (x := k l1 h) o p)
    | rt v => exact o
    | bk l1 => exact o
section
variable {C : Cst} {E : XK} {X : Cx} {pos : Pos} {tg iter c : Expr} {body : List Stmt} {fi : LS → LH → Out Nxt} {is : List Nat} {g : LV → LS → LH → Out LS} {b : LS → LH → Out LF} {gc : LS → LH → Out Bool}
theorem for_im {wi : TI} {tgr : TG} {tb : TS} (ii : ImI C E wi fi) (ig : ImG C E is tgr g) (ib : ImS C E tb b) : ImS C E (tFor wi tgr tb) (sFor fi g b) := fun ρ h H l σ D R S o => by
  refine ii ρ h H l σ _ R S (EndsOk.bind o fun nx h1 ρ1 H1 J p1 R1 zJ o1 => ?_)
  refine ⟨fun i m σ H => ∃ ρ' h' l', pre ρ1 ρ' ∧ Rel C ρ' h' H ∧ RSl ρ' l' σ ∧ EndsOk C E ρ' D (loopF nx g b m i l' h'), ⟨1000, ρ1, h1, l, pre.refl _, R1, S.mono p1, o1⟩, ?_⟩
  rintro i m σ2 H2 ⟨ρ2, h2, l2, p2, R2, S2, o2⟩
  cases m with
  | zero => exact o2.elim
  | succ m =>
    have hj := zJ ρ2 h2 H2 i p2 R2
    unfold loopF turnM at o2
    cases e : nx i h2 with
    | stop =>
      rw [e] at hj o2
      exact .inl ⟨hj, o2 ρ2 H2 (pre.refl _) R2 σ2 S2⟩
    | no => rw [e] at o2; exact o2.elim
    | item v =>
      rw [e] at hj o2
      refine .inr ⟨hj.1, _, fun σ' H' hn => ⟨m, Nat.lt_succ_self m, hn⟩, fun x H' y => ?_⟩
      obtain ⟨rfl, zv⟩ := hj.2 x H' y
      dsimp only at o2
      refine ig ρ2 h2 H' v x l2 σ2 _ R2 zv S2 (EndsOk.bind o2 fun l3 h3 ρ3 H3 σ3 p3 R3 S3 o3 => ?_)
      exact ib ρ3 h3 H3 l3 σ3 _ R3 S3.1 (EndsOk.turn o3 fun ρ4 h4 H4 l4 σ4 p4 R4 S4 o4 => ⟨ρ4, h4, l4, p2.trans (p3.trans p4), R4, S4, o4⟩)
    | newT vs =>
      rw [e] at hj o2
      refine .inr ⟨hj.1, _, fun σ' H' hn => ⟨m, Nat.lt_succ_self m, hn⟩, fun x H' y => ?_⟩
      obtain ⟨T, us, rfl, hn, rfl, zv⟩ := hj.2 x H' y
      dsimp only at o2
      cases e2 : Nat.blt vs.length 1000 with
      | false => rw [e2] at o2; exact o2.elim
      | true =>
        rw [e2] at o2
        obtain ⟨R3, e3, p3, o3⟩ := endsNew o2 R2 hn (u := .tup us) ⟨_, zv.mono (pre.app _ _), upd_same⟩
        refine ig _ _ _ _ _ l2 σ2 _ R3 (.ref e3) (S2.mono p3) (EndsOk.bind (o3.mono p3) fun l4 h4 ρ4 H4 σ4 p4 R4 S4 o4 => ?_)
        exact ib ρ4 h4 H4 l4 σ4 _ R4 S4.1 (EndsOk.turn o4 fun ρ5 h5 H5 l5 σ5 p5 R5 S5 o5 => ⟨ρ5, h5, l5, p2.trans (p3.trans (p4.trans p5)), R5, S5, o5⟩)
theorem s_for (hp : PassesOwn (model X.prog X.w) X.A X.env X.xe) (hc : X.calm = true) (hi : TrI C E X tg iter fi) (hg : TrG C E X tg is g) (hb : TrSs C E X body b) (hs : ∀ x, foldedSetIterable iter X.env x = pure x := by intro _; rfl) : TrS C E X (.For tg iter body [] pos) (sFor fi g b) :=
  let ⟨_, p, i⟩ := hi; let ⟨_, q, j⟩ := hg; let ⟨_, r, k⟩ := hb; ⟨_, ps_for hp hc p q r hs, for_im i j k⟩
def loopW (gc : LS → LH → Out Bool) (b : LS → LH → Out LF) : Nat → LS → LH → Out LF
  | 0, _, _ => .no
  | n + 1, l, h => (gc l h).bind fun c h1 => match c with
    | true => (b l h1).bind fun r h3 => match r with
      | .nx l2 => loopW gc b n l2 h3
      | .ct l2 => loopW gc b n l2 h3
      | .bk l2 => .ok (.nx l2) h3
      | .rt v => .ok (.rt v) h3
    | false => .ok (.nx l) h1
theorem s_while (hp : PassesOwn (model X.prog X.w) X.A X.env X.xe) (hcd : TrT C E X c gc) (hb : TrSs C E X body b) : TrS C E X (.While c body [] pos) (loopW gc b 1000) := by
  obtain ⟨t, p, i⟩ := hcd
  obtain ⟨tb, q, j⟩ := hb
  refine ⟨_, ps_while hp p q, fun ρ h H l σ D R S o => ?_⟩
  refine ⟨fun m σ H => ∃ ρ' h' l', Rel C ρ' h' H ∧ RSl ρ' l' σ ∧ EndsOk C E ρ' D (loopW gc b m l' h'), ⟨1000, ρ, h, l, R, S, o⟩, ?_⟩
  rintro m σ2 H2 ⟨ρ2, h2, l2, R2, S2, o2⟩
  cases m with
  | zero => exact o2.elim
  | succ m =>
    unfold loopW at o2
    refine i ρ2 h2 H2 l2 σ2 _ R2 S2 (EndsOk.bind (R := EqB) o2 fun cv h3 ρ3 H3 cu p3 R3 z o3 => ?_)
    cases z
    cases cv with
    | false => rw [if_neg Bool.false_ne_true]; exact o3 ρ3 H3 (pre.refl _) R3 σ2 (S2.mono p3)
    | true =>
      rw [if_pos rfl]
      refine ⟨_, fun σ' H' hn => ⟨m, Nat.lt_succ_self m, hn⟩, ?_⟩
      exact j ρ3 h3 H3 l2 σ2 _ R3 (S2.mono p3) (EndsOk.turn o3 fun ρ4 h4 H4 l4 σ4 p4 R4 S4 o4 => ⟨ρ4, h4, l4, R4, S4, o4⟩)
end
end MR
set_option maxHeartbeats 4000000
/-! Mirror 9: comprehensions, a dict locked while it is walked, stores of several names at once. -/
namespace MR
open PySem PySem.Spec PyProof.Rows L2

theorem wipe_in {σ : L2.St} {j : Nat} : ∀ {vs : List Nat}, j ∈ vs → (wipe σ vs)[j]? = if j < σ.length then some none else none
  | [], h => by cases h
  | v :: vs, h => by
    unfold wipe
    by_cases e : v = j
    · subst e
      by_cases hl : v < σ.length
      · rw [List.getElem?_set_self (by rw [wipe_length]; exact hl), if_pos hl]
      · rw [List.getElem?_eq_none (by rw [List.length_set, wipe_length]; omega), if_neg hl]
    · rw [List.getElem?_set_ne e]
      rcases List.mem_cons.mp h with z | z
      · exact absurd z.symm e
      · exact wipe_in z
theorem wipe_fr {σ σ2 : L2.St} {is vs : List Nat} (f : Fr is (wipe σ vs) σ2) (h : ∀ i, i ∈ is → i ∈ vs) : wipe σ2 vs = wipe σ vs := by
  have hl : σ2.length = σ.length := by rw [f.1, wipe_length]
  refine List.ext_getElem? fun j => ?_
  by_cases hj : j ∈ vs
  · rw [wipe_in hj, wipe_in hj, hl]
  · rw [wipe_out hj, f.2 j (fun q => hj (h j q))]
def wipeL (l : LS) : List Nat → LS
  | [] => l
  | v :: vs => (wipeL l vs).set v none
theorem wipeL_ok {ρ : List Addr} {l : LS} {σ : L2.St} (S : RSl ρ l σ) : ∀ vs, RSl ρ (wipeL l vs) (wipe σ vs)
  | [] => S
  | v :: vs => (wipeL_ok S vs).unset v none
def noEx {α : Type} (x : Out α) : Out α := match x with
  | .ok a h => .ok a h
  | _ => .no
theorem noEx_ok {C : Cst} {E : XK} {α β : Type} {R : List Addr → α → β → Prop} {ρ : List Addr} {x : Out α} {Q : β → Hp → Prop} (o : OkG C E R ρ (noEx x) Q) : OkG C E0 R ρ x Q := by
  cases x with
  | ok v h => exact o
  | ex c d h => exact o.elim
  | no => exact o.elim
/-! ### what is shown in the block -/
section
variable {C : Cst} {E : XK} {X : Cx} {scope : Scope}
abbrev InB (X : Cx) (scope : Scope) (P : Cx → Prop) : Prop := ∀ (s : Shared) (H : Hp) (D : Addr) (cl : List (Str × Addr)) (fp : List Addr), P (X.blk s H scope (compEnvC scope cl D X.env) fp)
theorem inE {e : Expr} {f : LS → LH → Out LV} (h : InB X scope fun Y => TrE C E Y e f) : ∃ t, InB X scope (fun Y => PE Y e t) ∧ ImE C E t f := by
  have p := fun s H D cl fp => (Classical.choose_spec (h s H D cl fp)).1
  have i := fun s H D cl fp => (Classical.choose_spec (h s H D cl fp)).2
  exact ⟨fun σ H Q => ∀ s H' D cl fp, Classical.choose (h s H' D cl fp) σ H Q, fun s H D cl fp => ⟨fun pins s' σ H' Q I hw => (p s H D cl fp).run pins s' σ H' Q I (hw s H D cl fp)⟩, fun ρ h H l σ Q R S o s H' D cl fp => i s H' D cl fp ρ h H l σ Q R S o⟩
theorem inG {e : Expr} {is : List Nat} {f : LV → LS → LH → Out LS} (h : InB X scope fun Y => TrG C E Y e is f) : ∃ t, InB X scope (fun Y => PG Y e t) ∧ ImG C E is t f := by
  have p := fun s H D cl fp => (Classical.choose_spec (h s H D cl fp)).1
  have i := fun s H D cl fp => (Classical.choose_spec (h s H D cl fp)).2
  exact ⟨fun u σ H Q => ∀ s H' D cl fp, Classical.choose (h s H' D cl fp) u σ H Q, fun s H D cl fp => ⟨fun pins s' σ H' x u Q I r hw => (p s H D cl fp).run pins s' σ H' x u Q I r (hw s H D cl fp)⟩, fun ρ h H v u l σ Q R z S o s H' D cl fp => i s H' D cl fp ρ h H v u l σ Q R z S o⟩
/-- a clause's tests -/
def TrP (C : Cst) (E : XK) (X : Cx) (es : List Expr) (f : LS → LH → Out Bool) : Prop := ∃ t, PTs X es t ∧ ImT C E t f
theorem inP {es : List Expr} {f : LS → LH → Out Bool} (h : InB X scope fun Y => TrP C E Y es f) : ∃ t, InB X scope (fun Y => PTs Y es t) ∧ ImT C E t f := by
  have p := fun s H D cl fp => (Classical.choose_spec (h s H D cl fp)).1
  have i := fun s H D cl fp => (Classical.choose_spec (h s H D cl fp)).2
  exact ⟨fun σ H Q => ∀ s H' D cl fp, Classical.choose (h s H' D cl fp) σ H Q, fun s H D cl fp => ⟨fun pins s' σ H' Q I hw => (p s H D cl fp).run pins s' σ H' Q I (hw s H D cl fp)⟩, fun ρ h H l σ Q R S o s H' D cl fp => i s H' D cl fp ρ h H l σ Q R S o⟩
def bYes : LS → LH → Out Bool := fun _ h => .ok true h
theorem p_nil : TrP C E X [] bYes := ⟨_, pts_nil, fun ρ h H l σ Q R S o => o.here R rfl⟩
theorem p_one {c : Expr} {f : LS → LH → Out Bool} (h : TrT C E X c f) : TrP C E X [c] f := let ⟨_, p, i⟩ := h; ⟨_, pts_one p, i⟩
end
theorem turnNew {C : Cst} {E : XK} {h : LH} {H : Hp} {ρ : List Addr} {vs : List LV} {k : LV → LH → Out LV} {Q : VK} (x : OkG C E RV ρ (match Nat.blt vs.length 1000 with
    | true => h.new (.tup vs) fun n h1 => k (.ref n) h1
    | false => .no) Q) (R : Rel C ρ h H) {p : Addr} {us : List V} (n : H p = none) (z : RVs ρ vs us) :
    ∃ h1, Rel C (ρ ++ [p]) h1 (upd H p (.tup us)) ∧ (ρ ++ [p])[h.n]? = some p ∧ pre ρ (ρ ++ [p]) ∧ OkG C E RV (ρ ++ [p]) (k (.ref h.n) h1) Q := by
  cases e2 : Nat.blt vs.length 1000 with
  | false => rw [e2] at x; exact x.elim
  | true =>
    rw [e2] at x
    obtain ⟨R3, e3, p3, o3⟩ := OkG.new x R n (u := .tup us) ⟨_, z.mono (pre.app _ _), upd_same⟩
    exact ⟨_, R3, e3, p3, o3.mono p3⟩
def lcStep (g : LV → LS → LH → Out LS) (t : LS → LH → Out Bool) (fe : LS → LH → Out LV) (l' : LS) (D : Nat) (rec : LH → Out LV) : LV → LH → Out LV := fun v h1 => (g v l' h1).bind fun l2 h2 => (t l2 h2).bind fun b h3 => match b with
  | true => (fe l2 h3).bind fun y h4 => match h4.t.get D with
    | some (.lst acc) => match Nat.blt acc.length 100000 with
      | true => h4.upd D (.lst (acc ++ [y])) rec
      | false => .no
    | _ => .no
  | false => rec h3
def lcLoop (nx : Nxt) (g : LV → LS → LH → Out LS) (t : LS → LH → Out Bool) (fe : LS → LH → Out LV) (l' : LS) (D : Nat) : Nat → Nat → LH → Out LV
  | 0, _, _ => .no
  | n + 1, i, h => turnM (nx i h) h (.ok (.ref D) h) (lcStep g t fe l' D fun h5 => lcLoop nx g t fe l' D n (i + 1) h5)
def eLc (fi : LS → LH → Out Nxt) (g : LV → LS → LH → Out LS) (t : LS → LH → Out Bool) (fe : LS → LH → Out LV) (vs : List Nat) : LS → LH → Out LV := fun l h => (fi l h).bind fun nx h1 => h1.new (.lst []) fun D h2 => noEx (lcLoop nx g t fe (wipeL l vs) D 1000 0 h2)
section
variable {C : Cst} {E : XK} {X : Cx} {fi : LS → LH → Out Nxt} {is : List Nat} {g : LV → LS → LH → Out LS} {ft : LS → LH → Out Bool} {fe : LS → LH → Out LV}
theorem im_lc {wi : TI} {tg : TG} {tt : TT} {te : TE} {vs : List Nat} (hv : ∀ i, i ∈ is → i ∈ vs) (ii : ImI C E wi fi) (ig : ImG C E0 is tg g) (it : ImT C E0 tt ft) (ie : ImE C E0 te fe) : ImE C E (tLc wi tg tt te vs) (eLc fi g ft fe vs) := fun ρ h H l σ Q R S o => by
  refine ii ρ h H l σ _ R S (OkG.bind o fun nx h1 ρ1 H1 J p1 R1 zJ o1 D hD => ?_)
  obtain ⟨R2, e2, p2, o2⟩ := OkG.new o1 R1 hD (u := .lst []) ⟨[], .nil, upd_same⟩
  refine ⟨fun i m H => ∃ ρ' h', pre (ρ1 ++ [D]) ρ' ∧ Rel C ρ' h' H ∧ OkG C E0 RV ρ' (lcLoop nx g ft fe (wipeL l vs) h1.n m i h') Q, ⟨1000, _, _, pre.refl _, R2, (noEx_ok o2).mono p2⟩, ?_⟩
  rintro i m H3 ⟨ρ3, h3, p3, R3, o3⟩
  have eD : ρ3[h1.n]? = some D := p3 _ _ e2
  cases m with
  | zero => exact o3.elim
  | succ m =>
    have hj := zJ ρ3 h3 H3 i (p2.trans p3) R3
    have Sw : RSl ρ3 (wipeL l vs) (wipe σ vs) := (wipeL_ok S vs).mono (p1.trans (p2.trans p3))
    unfold lcLoop turnM at o3
    -- a turn's body
    have body : ∀ {v : LV} {x : V} {ρ4 : List Addr} {h4 : LH} {H4 : Hp}, pre ρ3 ρ4 → Rel C ρ4 h4 H4 → RV ρ4 v x → OkG C E0 RV ρ4 (lcStep g ft fe (wipeL l vs) h1.n (fun h5 => lcLoop nx g ft fe (wipeL l vs) h1.n m (i + 1) h5) v h4) Q → tg x (wipe σ vs) H4 fun σ2 H2 => wipe σ2 vs = wipe σ vs ∧ tt σ2 H2 fun b H3 =>
          if b = true then te σ2 H3 fun y H4 => ∃ acc, H4 D = some (.lst acc) ∧ acc.length < sizeLine ∧ ∃ ρ' h', pre (ρ1 ++ [D]) ρ' ∧ Rel C ρ' h' (upd H4 D (.lst (acc ++ [y]))) ∧ OkG C E0 RV ρ' (lcLoop nx g ft fe (wipeL l vs) h1.n m (i + 1) h') Q
          else ∃ ρ' h', pre (ρ1 ++ [D]) ρ' ∧ Rel C ρ' h' H3 ∧ OkG C E0 RV ρ' (lcLoop nx g ft fe (wipeL l vs) h1.n m (i + 1) h') Q := by
      intro v x ρ4 h4 H4 p4 R4 z o4
      refine ig ρ4 h4 H4 v x _ _ _ R4 z (Sw.mono p4) (OkG.bind o4 fun l5 h5 ρ5 H5 σ5 p5 R5 S5 o5 => ⟨wipe_fr S5.2 hv, ?_⟩)
      refine it ρ5 h5 H5 l5 σ5 _ R5 S5.1 (OkG.bind (R := EqB) o5 fun b h6 ρ6 H6 b' p6 R6 zb o6 => ?_)
      cases zb
      cases b with
      | false => rw [if_neg Bool.false_ne_true]; exact ⟨ρ6, h6, p3.trans (p4.trans (p5.trans p6)), R6, o6⟩
      | true =>
        rw [if_pos rfl]
        refine ie ρ6 h6 H6 l5 σ5 _ R6 (S5.1.mono p6) (OkG.bind o6 fun y h7 ρ7 H7 u p7 R7 zy o7 => ?_)
        have eD7 : ρ7[h1.n]? = some D := p7 _ _ (p6 _ _ (p5 _ _ (p4 _ _ eD)))
        obtain ⟨ob, ho, r⟩ := R7.obj eD7
        rw [ho] at o7
        cases ob with
        | lst acc =>
          dsimp only at o7
          obtain ⟨vs', zs, hh⟩ := r
          cases e8 : Nat.blt acc.length 100000 with
          | false => rw [e8] at o7; exact o7.elim
          | true =>
            rw [e8] at o7
            have q2 := blt_lt e8
            rw [zs.length] at q2
            obtain ⟨R8, o8⟩ := OkG.upd o7 R7 eD7 hh thing_lst (u' := .lst (vs' ++ [u])) ⟨_, zs.append (.cons zy .nil), upd_same⟩
            exact ⟨vs', hh, (by rw [sizeLine_eq]; omega), ρ7, _, p3.trans (p4.trans (p5.trans (p6.trans p7))), R8, o8⟩
        | _ => exact o7.elim
    cases e : nx i h3 with
    | stop =>
      rw [e] at hj o3
      exact .inl ⟨hj, o3.here R3 (.ref eD)⟩
    | no => rw [e] at o3; exact o3.elim
    | item v =>
      rw [e] at hj o3
      refine .inr ⟨hj.1, _, fun H' hn => ⟨m, Nat.lt_succ_self m, hn⟩, fun x H' y => ?_⟩
      obtain ⟨rfl, zv⟩ := hj.2 x H' y
      exact body (pre.refl _) R3 zv o3
    | newT ws =>
      rw [e] at hj o3
      refine .inr ⟨hj.1, _, fun H' hn => ⟨m, Nat.lt_succ_self m, hn⟩, fun x H' y => ?_⟩
      obtain ⟨T, us, rfl, hn, rfl, zv⟩ := hj.2 x H' y
      obtain ⟨h4, R4, e4, p4, o4⟩ := turnNew (k := lcStep g ft fe (wipeL l vs) h1.n fun h5 => lcLoop nx g ft fe (wipeL l vs) h1.n m (i + 1) h5) o3 R3 hn zv
      exact body p4 R4 (.ref e4) o4
variable {elt tg iter : Expr} {ifs : List Expr} {scope : Scope} {pos : Pos}
theorem e_lc (own : List (Str × Nat)) (hc : X.calm = true) (hN : X.N.Nodup) (ok : blkC X.N X.env.scope scope own = true) (hv : ∀ i, i ∈ is → i ∈ own.map (·.2)) (hi : TrI C E X tg iter fi) (hg : InB X scope fun Y => TrG C E0 Y tg is g) (ht : InB X scope fun Y => TrP C E0 Y ifs ft) (he : InB X scope fun Y => TrE C E0 Y elt fe)
    (hs : ∀ x, foldedSetIterable iter X.env x = pure x := by intro _; rfl) : TrE C E X (.ListComp elt [⟨tg, iter, ifs, 0⟩] scope pos) (eLc fi g ft fe (own.map (·.2))) := by
  obtain ⟨wi, pi, ii⟩ := hi
  obtain ⟨tgr, pg, ig⟩ := inG hg
  obtain ⟨tt, pt, it⟩ := inP ht
  obtain ⟨te, pe, ie⟩ := inE he
  exact ⟨_, pe_lc hc hN pi (blkOk_by ok) pg pt pe hs, im_lc hv ii ig it ie⟩
/-- name = [..] -/
theorem s_setLc {i : Nat} {y : Str} {py spos : Pos} (own : List (Str × Nat)) (hc : X.calm = true) (hN : X.N.Nodup) (ok : blkC X.N X.env.scope scope own = true) (hv : ∀ i, i ∈ is → i ∈ own.map (·.2)) (hi : TrI C E X tg iter fi) (hg : InB X scope fun Y => TrG C E0 Y tg is g) (ht : InB X scope fun Y => TrP C E0 Y ifs ft) (he : InB X scope fun Y => TrE C E0 Y elt fe)
    (hy : X.N[i]? = some y := by rfl) (hyl : X.env.scope.names.lookup y = some .local := by rfl) (hsw : swapsWith (.ListComp elt [⟨tg, iter, ifs, 0⟩] scope pos) (some (.Name y py)) spos.line X.env = pure true := by rfl)
    (hs : ∀ x, foldedSetIterable iter X.env x = pure x := by intro _; rfl) : TrS C E X (.Assign [.Name y py] (.ListComp elt [⟨tg, iter, ifs, 0⟩] scope pos) spos) (sAsg (eLc fi g ft fe (own.map (·.2))) (gN i)) := by
  obtain ⟨wi, pi, ii⟩ := hi
  obtain ⟨tgr, pg, ig⟩ := inG hg
  obtain ⟨tt, pt, it⟩ := inP ht
  obtain ⟨te, pe, ie⟩ := inE he
  exact ⟨_, ps_setLc hc hN hy hyl hsw pi (blkOk_by ok) pg pt pe hs, im_asg (im_lc hv ii ig it ie) (im_gname i)⟩
end
end MR
set_option maxHeartbeats 4000000
/-! Mirror 10: dict comprehensions, a dict locked while it is walked, stores of several names at once. -/
namespace MR
open PySem PySem.Spec PyProof.Rows L2

def dcStep (g : LV → LS → LH → Out LS) (t : LS → LH → Out Bool) (fk fe : LS → LH → Out LV) (l' : LS) (D : Nat) (rec : LH → Out LV) : LV → LH → Out LV := fun v h1 => (g v l' h1).bind fun l2 h2 => (t l2 h2).bind fun b h3 => match b with
  | true => (fk l2 h3).bind fun x h4 => (fe l2 h4).bind fun y h5 => match h5.t.get D with
    | some (.dic d) => match keyL x with
      | some k => match Nat.blt d.length 100000 with
        | true => h5.upd D (.dic (putL d k y)) rec
        | false => .no
      | none => .no
    | _ => .no
  | false => rec h3
def dcLoop (nx : Nxt) (g : LV → LS → LH → Out LS) (t : LS → LH → Out Bool) (fk fe : LS → LH → Out LV) (l' : LS) (D : Nat) : Nat → Nat → LH → Out LV
  | 0, _, _ => .no
  | n + 1, i, h => turnM (nx i h) h (.ok (.ref D) h) (dcStep g t fk fe l' D fun h5 => dcLoop nx g t fk fe l' D n (i + 1) h5)
def eDc (fi : LS → LH → Out Nxt) (g : LV → LS → LH → Out LS) (t : LS → LH → Out Bool) (fk fe : LS → LH → Out LV) (vs : List Nat) : LS → LH → Out LV := fun l h => (fi l h).bind fun nx h1 => h1.new (.dic []) fun D h2 => noEx (dcLoop nx g t fk fe (wipeL l vs) D 1000 0 h2)
section
variable {C : Cst} {E : XK} {X : Cx} {fi : LS → LH → Out Nxt} {is : List Nat} {g : LV → LS → LH → Out LS} {ft : LS → LH → Out Bool} {fk fe : LS → LH → Out LV}
theorem im_dc {wi : TI} {tg : TG} {tt : TT} {tk te : TE} {vs : List Nat} (hv : ∀ i, i ∈ is → i ∈ vs) (ii : ImI C E wi fi) (ig : ImG C E0 is tg g) (it : ImT C E0 tt ft) (ik : ImE C E0 tk fk) (ie : ImE C E0 te fe) : ImE C E (tDc wi tg tt tk te vs) (eDc fi g ft fk fe vs) := fun ρ h H l σ Q R S o => by
  refine ii ρ h H l σ _ R S (OkG.bind o fun nx h1 ρ1 H1 J p1 R1 zJ o1 D hD => ?_)
  obtain ⟨R2, e2, p2, o2⟩ := OkG.new o1 R1 hD (u := .dK []) ⟨[], .nil, upd_same⟩
  refine ⟨fun i m H => ∃ ρ' h', pre (ρ1 ++ [D]) ρ' ∧ Rel C ρ' h' H ∧ OkG C E0 RV ρ' (dcLoop nx g ft fk fe (wipeL l vs) h1.n m i h') Q, ⟨1000, _, _, pre.refl _, R2, (noEx_ok o2).mono p2⟩, ?_⟩
  rintro i m H3 ⟨ρ3, h3, p3, R3, o3⟩
  have eD : ρ3[h1.n]? = some D := p3 _ _ e2
  cases m with
  | zero => exact o3.elim
  | succ m =>
    have hj := zJ ρ3 h3 H3 i (p2.trans p3) R3
    have Sw : RSl ρ3 (wipeL l vs) (wipe σ vs) := (wipeL_ok S vs).mono (p1.trans (p2.trans p3))
    unfold dcLoop turnM at o3
    -- a turn's body
    have body : ∀ {v : LV} {x : V} {ρ4 : List Addr} {h4 : LH} {H4 : Hp}, pre ρ3 ρ4 → Rel C ρ4 h4 H4 → RV ρ4 v x → OkG C E0 RV ρ4 (dcStep g ft fk fe (wipeL l vs) h1.n (fun h5 => dcLoop nx g ft fk fe (wipeL l vs) h1.n m (i + 1) h5) v h4) Q → tg x (wipe σ vs) H4 fun σ2 H2 => wipe σ2 vs = wipe σ vs ∧ tt σ2 H2 fun b H3 =>
          if b = true then tk σ2 H3 fun y H4 => te σ2 H4 fun z H5 => ∃ kvs k, y = kV k ∧ H5 D = some (.dK kvs) ∧ kvs.length < sizeLine ∧ ∃ ρ' h', pre (ρ1 ++ [D]) ρ' ∧ Rel C ρ' h' (upd H5 D (.dK (putK kvs k z))) ∧ OkG C E0 RV ρ' (dcLoop nx g ft fk fe (wipeL l vs) h1.n m (i + 1) h') Q
          else ∃ ρ' h', pre (ρ1 ++ [D]) ρ' ∧ Rel C ρ' h' H3 ∧ OkG C E0 RV ρ' (dcLoop nx g ft fk fe (wipeL l vs) h1.n m (i + 1) h') Q := by
      intro v x ρ4 h4 H4 p4 R4 z o4
      refine ig ρ4 h4 H4 v x _ _ _ R4 z (Sw.mono p4) (OkG.bind o4 fun l5 h5 ρ5 H5 σ5 p5 R5 S5 o5 => ⟨wipe_fr S5.2 hv, ?_⟩)
      refine it ρ5 h5 H5 l5 σ5 _ R5 S5.1 (OkG.bind (R := EqB) o5 fun b h6 ρ6 H6 b' p6 R6 zb o6 => ?_)
      cases zb
      cases b with
      | false => rw [if_neg Bool.false_ne_true]; exact ⟨ρ6, h6, p3.trans (p4.trans (p5.trans p6)), R6, o6⟩
      | true =>
        rw [if_pos rfl]
        refine ik ρ6 h6 H6 l5 σ5 _ R6 (S5.1.mono p6) (OkG.bind o6 fun y h7 ρ7 H7 u p7 R7 zy o7 => ?_)
        refine ie ρ7 h7 H7 l5 σ5 _ R7 ((S5.1.mono p6).mono p7) (OkG.bind o7 fun y2 h8 ρ8 H8 u2 p8 R8 zy2 o8 => ?_)
        have eD8 : ρ8[h1.n]? = some D := p8 _ _ (p7 _ _ (p6 _ _ (p5 _ _ (p4 _ _ eD))))
        obtain ⟨ob, ho, r⟩ := R8.obj eD8
        rw [ho] at o8
        cases ob with
        | dic d =>
          dsimp only at o8
          obtain ⟨kvs, zs, hh⟩ := r
          cases ek : keyL y with
          | none => rw [ek] at o8; exact o8.elim
          | some k =>
            rw [ek] at o8
            dsimp only at o8
            cases e8 : Nat.blt d.length 100000 with
            | false => rw [e8] at o8; exact o8.elim
            | true =>
              rw [e8] at o8
              have q2 := blt_lt e8
              rw [Paired.length zs] at q2
              obtain ⟨R9, o9⟩ := OkG.upd o8 R8 eD8 hh thing_dK (u' := .dK (putK kvs (kOf k) u2)) ⟨_, putL_ok k zs zy2, upd_same⟩
              exact ⟨kvs, kOf k, keyL_ok zy ek, hh, (by rw [sizeLine_eq]; omega), ρ8, _, p3.trans (p4.trans (p5.trans (p6.trans (p7.trans p8)))), R9, o9⟩
        | _ => exact o8.elim
    cases e : nx i h3 with
    | stop =>
      rw [e] at hj o3
      exact .inl ⟨hj, o3.here R3 (.ref eD)⟩
    | no => rw [e] at o3; exact o3.elim
    | item v =>
      rw [e] at hj o3
      refine .inr ⟨hj.1, _, fun H' hn => ⟨m, Nat.lt_succ_self m, hn⟩, fun x H' y => ?_⟩
      obtain ⟨rfl, zv⟩ := hj.2 x H' y
      exact body (pre.refl _) R3 zv o3
    | newT ws =>
      rw [e] at hj o3
      refine .inr ⟨hj.1, _, fun H' hn => ⟨m, Nat.lt_succ_self m, hn⟩, fun x H' y => ?_⟩
      obtain ⟨T, us, rfl, hn, rfl, zv⟩ := hj.2 x H' y
      obtain ⟨h4, R4, e4, p4, o4⟩ := turnNew (k := dcStep g ft fk fe (wipeL l vs) h1.n fun h5 => dcLoop nx g ft fk fe (wipeL l vs) h1.n m (i + 1) h5) o3 R3 hn zv
      exact body p4 R4 (.ref e4) o4
variable {kx vx tg iter : Expr} {ifs : List Expr} {scope : Scope} {pos : Pos}
theorem e_dc (own : List (Str × Nat)) (hc : X.calm = true) (hN : X.N.Nodup) (ok : blkC X.N X.env.scope scope own = true) (hv : ∀ i, i ∈ is → i ∈ own.map (·.2)) (hi : TrI C E X tg iter fi) (hg : InB X scope fun Y => TrG C E0 Y tg is g) (ht : InB X scope fun Y => TrP C E0 Y ifs ft) (hk : InB X scope fun Y => TrE C E0 Y kx fk) (he : InB X scope fun Y => TrE C E0 Y vx fe)
    (hs : ∀ x, foldedSetIterable iter X.env x = pure x := by intro _; rfl) : TrE C E X (.DictComp kx vx [⟨tg, iter, ifs, 0⟩] scope pos) (eDc fi g ft fk fe (own.map (·.2))) := by
  obtain ⟨wi, pi, ii⟩ := hi
  obtain ⟨tgr, pg, ig⟩ := inG hg
  obtain ⟨tt, pt, it⟩ := inP ht
  obtain ⟨tk, pk, ik⟩ := inE hk
  obtain ⟨te, pe, ie⟩ := inE he
  exact ⟨_, pe_dc hc hN pi (blkOk_by ok) pg pt pk pe hs, im_dc hv ii ig it ik ie⟩
end
section
variable {X : Cx}
/-- name = {k: v for ..} on one line, the name a local -/
theorem ps_setDc {i : Nat} {y : Str} {py : Pos} {kx vx tg iter : Expr} {ifs : List Expr} {scope : Scope} {own : List (Str × Nat)} {pos spos : Pos} {wi : TI} {g : TG} {tt : TT} {tk te : TE} (hc : X.calm = true) (hN : X.N.Nodup) (hy : X.N[i]? = some y) (hyl : X.env.scope.names.lookup y = some .local)
    (hsw : swapsWith (.DictComp kx vx [⟨tg, iter, ifs, 0⟩] scope pos) (some (.Name y py)) spos.line X.env = pure true) (hi : PI X tg iter wi) (ok : BlkOk X.N X.env.scope scope own)
    (hg : ∀ (s : Shared) (H : Hp) (C : Addr) (cl : List (Str × Addr)) (fp : List Addr), PG (X.blk s H scope (compEnvC scope cl C X.env) fp) tg g) (ht : ∀ (s : Shared) (H : Hp) (C : Addr) (cl : List (Str × Addr)) (fp : List Addr), PTs (X.blk s H scope (compEnvC scope cl C X.env) fp) ifs tt)
    (hk : ∀ (s : Shared) (H : Hp) (C : Addr) (cl : List (Str × Addr)) (fp : List Addr), PE (X.blk s H scope (compEnvC scope cl C X.env) fp) kx tk)
    (he : ∀ (s : Shared) (H : Hp) (C : Addr) (cl : List (Str × Addr)) (fp : List Addr), PE (X.blk s H scope (compEnvC scope cl C X.env) fp) vx te) (hs : ∀ x, foldedSetIterable iter X.env x = pure x := by intro _; rfl) :
    PS X (.Assign [.Name y py] (.DictComp kx vx [⟨tg, iter, ifs, 0⟩] scope pos) spos) (tAsg (tDc wi g tt tk te (own.map (·.2))) (gName i)) := by
  refine ⟨fun pins s σ H D I h => ?_⟩
  rw [exec_Assign_Name_used _ _ _ _ hsw]
  refine wpAny_bind (wpAny_standAt (wpAny_bind ?_))
  show wpAny _ X.A (do let _ ← comprehension (.DictComp kx vx [⟨tg, iter, ifs, 0⟩] scope pos) scope X.env (firstIterPos [⟨tg, iter, ifs, 0⟩] pos) newDict false (eval iter X.env) (some (assign (.Name y py) X.env))) _ _ s
  have h : tDc wi g tt tk te (own.map (·.2)) σ H (fun x H1 => gName i x σ H1 D.nx) := h
  refine wpAny_bind (thn (dc_core (Qf := fun _ s' => SP X pins D .next s') hc hN I hi ok hg ht hk he hs h fun L C s' m H' I' q hn f => ?_) fun _ s' hq => wpAny_pure (wpAny_pure hq))
  show wpAny _ _ (assign (.Name y py) X.env (.ref L)) _ _ _
  refine wpAny_assign_Name (store_ok2 (v := V.ref L) I' hN hy (.inl hyl) rfl (fun s2 I2 ⟨a, sb, ha⟩ => ?_) (.inr hyl))
  obtain ⟨f0, f1, f2, f3, f4, f5⟩ := f
  have haC : C ≠ a := by
    rcases ha with z | z
    · rw [z]; exact f1
    · exact fun e => f4 y a z e.symm
  refine ⟨m, hn.sameBut sb haC, fun h3 sb3 => ?_⟩
  exact ⟨_, H', I2.turned (t' := s2.toks) (fun b o hb e => (sb3.2 b hb).trans e) f0 f1 f3 f4 f5, q⟩
end
section
variable {C : Cst} {E : XK} {X : Cx} {fi : LS → LH → Out Nxt} {is : List Nat} {g : LV → LS → LH → Out LS} {ft : LS → LH → Out Bool} {fk fe : LS → LH → Out LV} {kx vx tg iter : Expr} {ifs : List Expr} {scope : Scope} {pos : Pos}
theorem s_setDc {i : Nat} {y : Str} {py spos : Pos} (own : List (Str × Nat)) (hc : X.calm = true) (hN : X.N.Nodup) (ok : blkC X.N X.env.scope scope own = true) (hv : ∀ i, i ∈ is → i ∈ own.map (·.2)) (hi : TrI C E X tg iter fi) (hg : InB X scope fun Y => TrG C E0 Y tg is g) (ht : InB X scope fun Y => TrP C E0 Y ifs ft) (hk : InB X scope fun Y => TrE C E0 Y kx fk) (he : InB X scope fun Y => TrE C E0 Y vx fe)
    (hy : X.N[i]? = some y := by rfl) (hyl : X.env.scope.names.lookup y = some .local := by rfl) (hsw : swapsWith (.DictComp kx vx [⟨tg, iter, ifs, 0⟩] scope pos) (some (.Name y py)) spos.line X.env = pure true := by rfl)
    (hs : ∀ x, foldedSetIterable iter X.env x = pure x := by intro _; rfl) : TrS C E X (.Assign [.Name y py] (.DictComp kx vx [⟨tg, iter, ifs, 0⟩] scope pos) spos) (sAsg (eDc fi g ft fk fe (own.map (·.2))) (gN i)) := by
  obtain ⟨wi, pi, ii⟩ := hi
  obtain ⟨tgr, pg, ig⟩ := inG hg
  obtain ⟨tt, pt, it⟩ := inP ht
  obtain ⟨tk, pk, ik⟩ := inE hk
  obtain ⟨te, pe, ie⟩ := inE he
  exact ⟨_, ps_setDc hc hN hy hyl hsw pi (blkOk_by ok) pg pt pk pe hs, im_asg (im_dc hv ii ig it ik ie) (im_gname i)⟩
end
/-! ### a lock -/
def Cst.lock (C : Cst) (a : Addr) (u : HO) : Cst := { C with frz := (a, u) :: C.frz }
def putH (h : LH) (i : Nat) (o : LO) : LH := ⟨h.n, h.t.put 20 i o⟩
def pkL (x : Out LV) : Option Nat := match x with
  | .ok (.ref i) _ => some i
  | _ => none
def eLock (fd f : LS → LH → Out LV) : LS → LH → Out LV := fun l h => match pkL (fd l h) with
  | some i => match h.t.get i with
    | some (.dic d) => match Nat.blt h.n 500000 with
      | true => match f l (putH h i (.frz d)) with
        | .ok v h1 => match Nat.blt h1.n 500000 with
          | true => .ok v (putH h1 i (.dic d))
          | false => .no
        | _ => .no
      | false => .no
    | _ => .no
  | none => .no
section
variable {C : Cst} {ρ : List Addr} {h : LH} {H : Hp} {i : Nat} {a : Addr} {d : LD} {kvs : List (Key × V)} {o : Obj}
theorem RO.cst {C' : Cst} {b : Addr} {ob : LO} (r : RO C ρ H b ob) (hc : C'.cls = C.cls) (hf : ∀ u, (b, u) ∈ C.frz → (b, u) ∈ C'.frz) : RO C' ρ H b ob := by
  cases ob with
  | lst xs => exact r
  | tup xs => exact r
  | dic xs => exact r
  | frz xs => obtain ⟨vs, o, z, e, m⟩ := r; exact ⟨vs, o, z, e, hf _ m⟩
  | opq => exact r
  | scr => exact r
  | ins c sl => unfold RO at r ⊢; rw [hc]; exact r
  | xd f v => exact r
theorem lockIn (R : Rel C ρ h H) (e : ρ[i]? = some a) (hn : h.n < 2 ^ 19) (ha : H a = some (.dK kvs)) (z : RKVs ρ d kvs) : Rel (C.lock a (.frz o (.dK kvs))) ρ (putH h i (.frz d)) (upd H a (.frz o (.dK kvs))) := by
  have hi := R.lt e
  have hg : ∀ j, (h.t.put 20 i (.frz d)).get j = if j = i then some (.frz d) else h.t.get j := fun j => Tr.get_put 20 h.t i _ j (by omega)
  have na : ∀ p, p ∈ C.frz → p.1 ≠ a := fun p hp q => by
    obtain ⟨h1, o', w, h2⟩ := R.frz p hp
    rw [q, ha, h2] at h1; cases h1
  refine ⟨R.nd, R.len, fun j hj => ?_, fun j x q => ?_, tabs_upd R.tabs ha thing_dK.1, fun p hp => ?_⟩
  · show ((h.t.put 20 i (.frz d)).get j).isSome = true
    rw [hg]
    by_cases w : j = i
    · rw [if_pos w]; rfl
    · rw [if_neg w]; exact R.dom j hj
  · have q' : (h.t.put 20 i (.frz d)).get j = some x := q
    rw [hg] at q'
    by_cases w : j = i
    · rw [if_pos w] at q'; cases q'
      exact ⟨a, by rw [w]; exact e, kvs, o, z, upd_same, List.mem_cons_self ..⟩
    · rw [if_neg w] at q'
      obtain ⟨b, eb, rb⟩ := R.at_ j x q'
      have nb : b ≠ a := fun w' => by
        subst w'
        obtain ⟨h1, e1⟩ := List.getElem?_eq_some_iff.mp eb
        obtain ⟨h2, e2⟩ := List.getElem?_eq_some_iff.mp e
        exact w ((List.getElem_inj R.nd).mp (e1.trans e2.symm))
      obtain ⟨u, hu, tu⟩ := rb.thing
      refine ⟨b, eb, (rb.keep (pre.refl _) (by rw [upd_ne nb]) fun dd u hd hz => ?_).cst rfl fun u hu => List.mem_cons_of_mem _ hu⟩
      rw [upd_ne]
      · exact hd
      · rintro rfl
        rw [ha] at hd; cases hd
        rcases hz with hz | hz <;> cases hz
  · rcases List.mem_cons.mp hp with rfl | hp
    · exact ⟨upd_same, _, _, rfl⟩
    · exact ⟨by rw [upd_ne (na p hp)]; exact (R.frz p hp).1, (R.frz p hp).2⟩
theorem lockOut (R : Rel (C.lock a (.frz o (.dK kvs))) ρ h H) (e : ρ[i]? = some a) (hn : h.n < 2 ^ 19) (na : ∀ p, p ∈ C.frz → p.1 ≠ a) (z : RKVs ρ d kvs) : Rel C ρ (putH h i (.dic d)) (upd H a (.dK kvs)) := by
  have hi := R.lt e
  have ha : H a = some (.frz o (.dK kvs)) := (R.frz _ (List.mem_cons_self ..)).1
  have hg : ∀ j, (h.t.put 20 i (.dic d)).get j = if j = i then some (.dic d) else h.t.get j := fun j => Tr.get_put 20 h.t i _ j (by omega)
  refine ⟨R.nd, R.len, fun j hj => ?_, fun j x q => ?_, tabs_upd R.tabs ha still_frz, fun p hp => ?_⟩
  · show ((h.t.put 20 i (.dic d)).get j).isSome = true
    rw [hg]
    by_cases w : j = i
    · rw [if_pos w]; rfl
    · rw [if_neg w]; exact R.dom j hj
  · have q' : (h.t.put 20 i (.dic d)).get j = some x := q
    rw [hg] at q'
    by_cases w : j = i
    · rw [if_pos w] at q'; cases q'
      exact ⟨a, by rw [w]; exact e, kvs, z, upd_same⟩
    · rw [if_neg w] at q'
      obtain ⟨b, eb, rb⟩ := R.at_ j x q'
      have nb : b ≠ a := fun w' => by
        subst w'
        obtain ⟨h1, e1⟩ := List.getElem?_eq_some_iff.mp eb
        obtain ⟨h2, e2⟩ := List.getElem?_eq_some_iff.mp e
        exact w ((List.getElem_inj R.nd).mp (e1.trans e2.symm))
      refine ⟨b, eb, (rb.keep (pre.refl _) (by rw [upd_ne nb]) fun dd u hd hz => ?_).cst rfl fun u hu => ?_⟩
      · rw [upd_ne]
        · exact hd
        · rintro rfl
          rw [ha] at hd; cases hd
          rcases hz with hz | hz <;> cases hz
      · rcases List.mem_cons.mp hu with hu | hu
        · cases hu; exact absurd rfl nb
        · exact hu
  · exact ⟨by rw [upd_ne (na p hp)]; exact (R.frz p (List.mem_cons_of_mem _ hp)).1, (R.frz p (List.mem_cons_of_mem _ hp)).2⟩
end
section
variable {C : Cst} {E : XK} {X : Cx} {e : Expr} {f : LS → LH → Out LV}
theorem im_lock (fd : LS → LH → Out LV) {t : TE} (hi : ∀ a u, ImE (C.lock a u) E t f) : ImE C E (tLockE t) (eLock fd f) := fun ρ h H l σ Q R S x => by
  unfold eLock at x
  cases e1 : pkL (fd l h) with
  | none => rw [e1] at x; exact x.elim
  | some i =>
    rw [e1] at x
    dsimp only at x
    cases e2 : h.t.get i with
    | none => rw [e2] at x; exact x.elim
    | some ob =>
      rw [e2] at x
      cases ob with
      | dic d =>
        dsimp only at x
        cases e3 : Nat.blt h.n 500000 with
        | false => rw [e3] at x; exact x.elim
        | true =>
          rw [e3] at x
          dsimp only at x
          have hn := blt_lt e3
          obtain ⟨a, ea, kvs, z, ha⟩ := R.at_ i _ e2
          have na : ∀ p, p ∈ C.frz → p.1 ≠ a := fun p hp q => by
            obtain ⟨h1, o', w, h2⟩ := R.frz p hp
            rw [q, ha, h2] at h1; cases h1
          refine ⟨a, .dK kvs, ha, trivial, fun od => ?_⟩
          refine hi a (.frz od (.dK kvs)) ρ _ _ l σ _ (lockIn R ea (by omega) ha z) S ?_
          cases e4 : f l (putH h i (.frz d)) with
          | no => rw [e4] at x; exact x.elim
          | ex c d' h' => rw [e4] at x; exact x.elim
          | ok v h1 =>
            rw [e4] at x
            dsimp only at x
            cases e5 : Nat.blt h1.n 500000 with
            | false => rw [e5] at x; exact x.elim
            | true =>
              rw [e5] at x
              have hn1 := blt_lt e5
              exact fun ρ' H' u p R' zv => ⟨(R'.frz _ (List.mem_cons_self ..)).1, x ρ' _ u p (lockOut R' (p _ _ ea) (by omega) na (z.mono p)) zv⟩
      | _ => exact x.elim
/-- for the whole of a comprehension over a dict that it leaves; fd: the dict -/
theorem e_lock (fd : LS → LH → Out LV) (h : ∀ a u, TrE (C.lock a u) E X e f) : TrE C E X e (eLock fd f) := by
  have p := fun a u => (Classical.choose_spec (h a u)).1
  have i := fun a u => (Classical.choose_spec (h a u)).2
  exact ⟨_, pe_lock (t := fun σ H Q => ∃ a u, Classical.choose (h a u) σ H Q) ⟨fun pins s σ H Q I hw => let ⟨a, u, hw⟩ := hw; (p a u).run pins s σ H Q I hw⟩, im_lock fd fun a u ρ h' H l σ Q R S o => ⟨a, u, i a u ρ h' H l σ Q R S o⟩⟩
def sLock (fd : LS → LH → Out LV) (f : LS → LH → Out LF) : LS → LH → Out LF := fun l h => match pkL (fd l h) with
  | some i => match h.t.get i with
    | some (.dic d) => match Nat.blt h.n 500000 with
      | true => match f l (putH h i (.frz d)) with
        | .ok v h1 => match Nat.blt h1.n 500000 with
          | true => .ok v (putH h1 i (.dic d))
          | false => .no
        | _ => .no
      | false => .no
    | _ => .no
  | none => .no
theorem s_lock {s : Stmt} {f : LS → LH → Out LF} (fd : LS → LH → Out LV) (h : ∀ a u, TrS (C.lock a u) E X s f) : TrS C E X s (sLock fd f) := by
  have p := fun a u => (Classical.choose_spec (h a u)).1
  have i := fun a u => (Classical.choose_spec (h a u)).2
  refine ⟨_, ps_lock (t := fun D σ H => ∃ a u, Classical.choose (h a u) D σ H) ⟨fun pins s σ H D I hw => let ⟨a, u, hw⟩ := hw; (p a u).run pins s σ H D I hw⟩, fun ρ h' H l σ D R S x => ?_⟩
  unfold sLock at x
  cases e1 : pkL (fd l h') with
  | none => rw [e1] at x; exact x.elim
  | some j =>
    rw [e1] at x
    dsimp only at x
    cases e2 : h'.t.get j with
    | none => rw [e2] at x; exact x.elim
    | some ob =>
      rw [e2] at x
      cases ob with
      | dic d =>
        dsimp only at x
        cases e3 : Nat.blt h'.n 500000 with
        | false => rw [e3] at x; exact x.elim
        | true =>
          rw [e3] at x
          dsimp only at x
          have hn := blt_lt e3
          obtain ⟨a, ea, kvs, z, ha⟩ := R.at_ j _ e2
          have na : ∀ p, p ∈ C.frz → p.1 ≠ a := fun p hp q => by
            obtain ⟨h1, o', w, h2⟩ := R.frz p hp
            rw [q, ha, h2] at h1; cases h1
          refine ⟨a, .dK kvs, ha, trivial, fun od => ⟨a, .frz od (.dK kvs), ?_⟩⟩
          refine i a (.frz od (.dK kvs)) ρ _ _ l σ _ (lockIn R ea (by omega) ha z) S ?_
          cases e4 : f l (putH h' j (.frz d)) with
          | no => rw [e4] at x; exact x.elim
          | ex c d' h' => rw [e4] at x; exact x.elim
          | ok v h1 =>
            rw [e4] at x
            dsimp only at x
            cases e5 : Nat.blt h1.n 500000 with
            | false => rw [e5] at x; exact x.elim
            | true =>
              rw [e5] at x
              have hn1 := blt_lt e5
              intro ρ' H' p R'
              have R2 := lockOut R' (p _ _ ea) (by omega) na (z.mono p)
              have fz := (R'.frz _ (List.mem_cons_self ..)).1
              have x' := x ρ' _ p R2
              cases v with
              | nx l => exact fun σ S => ⟨fz, x' σ S⟩
              | rt l => exact fun σ S => ⟨fz, x' σ S⟩
              | bk l => exact fun σ S => ⟨fz, x' σ S⟩
              | ct l => exact fun σ S => ⟨fz, x' σ S⟩
      | _ => exact x.elim
end
end MR
set_option maxHeartbeats 4000000
/-! Mirror 11: stores of several names at once, name += e, names of the module, written dicts, a key None. -/
namespace MR
open PySem PySem.Spec PyProof.Rows L2

section
variable {C : Cst} {E : XK} {X : Cx} {a b c e : Expr} {fs : LS → LH → Out (List LV)} {fe : LS → LH → Out LV} {pos : Pos}
/-! a, b = x, y -/
def sPar2 (i j : Nat) (fs : LS → LH → Out (List LV)) : LS → LH → Out LF := fun l h => (fs l h).bind fun vs h1 => match vs with
  | [v, w] => .ok (.nx ((l.set i (some v)).set j (some w))) h1
  | _ => .no
theorem s_par2 {x y : Str} {px py pt : Pos} {kt k2 pt2} (i j : Nat) (hc : X.calm = true) (hN : X.N.Nodup) (ha : TrA C E X [a, b] fs) (hi : X.N[i]? = some x := by rfl) (hj : X.N[j]? = some y := by rfl) (hij : i ≠ j := by decide)
    (hx : X.env.scope.names.lookup x = some .local := by rfl) (hy : X.env.scope.names.lookup y = some .local := by rfl)
    (hw : swappedStores [.Tuple [.Name x px, .Name y py] kt pt] (.Tuple [a, b] k2 pt2) X.env = pure (some [x, y]) := by rfl)
    (hs : swapsWithSole [.Tuple [.Name x px, .Name y py] kt pt] (.Tuple [a, b] k2 pt2) pos.line X.env = pure false := by rfl) :
    TrS C E X (.Assign [.Tuple [.Name x px, .Name y py] kt pt] (.Tuple [a, b] k2 pt2) pos) (sPar2 i j fs) := by
  obtain ⟨t, p, k⟩ := ha
  refine ⟨_, ps_par hc hN hi hj hij hx hy p hw hs, fun ρ h H l σ D R S o => k ρ h H l σ _ R S (EndsOk.bind o fun vs h1 ρ1 H1 us p1 R1 z o1 => ?_)⟩
  split at o1
  · obtain ⟨u, v, rfl, z1, z2⟩ := z.two_
    exact ⟨u, v, rfl, o1 ρ1 H1 (pre.refl _) R1 _ (((S.mono p1).set i z1).set j z2)⟩
  · exact o1.elim
def tPar3 (i j k : Nat) (ta : TA) : TS := fun D σ H => ta σ H fun vs H1 => ∃ u v w, vs = [u, v, w] ∧ D.nx (((σ.set i (some u)).set j (some v)).set k (some w)) H1
theorem ps_par3 {i j k : Nat} {x y z : Str} {ta : TA} {px py pz pt : Pos} {kt k2 pt2} (hc : X.calm = true) (hN : X.N.Nodup) (hi : X.N[i]? = some x) (hj : X.N[j]? = some y) (hk : X.N[k]? = some z) (hij : i ≠ j) (hik : i ≠ k) (hjk : j ≠ k)
    (hx : X.env.scope.names.lookup x = some .local) (hy : X.env.scope.names.lookup y = some .local) (hz : X.env.scope.names.lookup z = some .local) (ha : PA X [a, b, c] ta)
    (hw : swappedStores [.Tuple [.Name x px, .Name y py, .Name z pz] kt pt] (.Tuple [a, b, c] k2 pt2) X.env = pure (some [x, y, z]))
    (hs : swapsWithSole [.Tuple [.Name x px, .Name y py, .Name z pz] kt pt] (.Tuple [a, b, c] k2 pt2) pos.line X.env = pure false) :
    PS X (.Assign [.Tuple [.Name x px, .Name y py, .Name z pz] kt pt] (.Tuple [a, b, c] k2 pt2) pos) (tPar3 i j k ta) := by
  refine ⟨fun pins s σ H D I h => ?_⟩
  rw [exec_Assign_arm]
  refine wpAny_bind (wpAny_standAt ?_)
  rw [hs]
  refine wpAny_bind (wpAny_pure ?_)
  rw [if_neg (by decide)]
  refine wpAny_bind (Tuple_ (thn (ha.run _ pins s σ H _ I h) fun us s1 ⟨vs, H1, I1, r1, q1⟩ => ?_))
  obtain ⟨v, w, w3, e1, q1⟩ := q1
  subst e1
  obtain ⟨u1, u2, u3, rfl, rv, rw', r3⟩ : ∃ u1 u2 u3, us = [u1, u2, u3] ∧ RelV v u1 ∧ RelV w u2 ∧ RelV w3 u3 := by
    cases r1 with
    | cons p q =>
      cases q with
      | cons p' q' =>
        cases q' with
        | cons p2 q2 =>
          cases q2
          exact ⟨_, _, _, rfl, p, p', p2⟩
  refine wpAny_newObj_type ?_ (by show 3 ≤ sizeLine; decide)
  have I2 : Inv X pins σ H1 { s1 with heap := s1.heap.push { cls := .type "tuple", data := .seq [u1, u2, u3].toArray } } := I1.kept (t' := s1.toks) fun b o e => Heap.get?_push_of_some _ e
  rw [hw]
  refine wpAny_bind (wpAny_pure ?_)
  show wpAny (model X.prog X.w) X.A (do rule "assign.swapped-stores"; let items ← unpackItems (.ref s1.heap.objs.size) 3 none; assignInOrder [fun v => bindName X.env z v, fun v => bindName X.env y v, fun v => bindName X.env x v] items.reverse; pure Flow.next) _ _ _
  refine wpAny_bind (wpAny_rule (wpAny_bind (unpackItems_tuple (items := #[u1, u2, u3]) (I.ok.hd hc) (IsTup.new s1.heap _) fun h' hx' => ?_)))
  have I3 := I2.kept (h' := h') (t' := s1.toks) fun b o e => hx' b o (Nat.ne_of_lt (Heap.lt_size e)) e
  show wpAny _ _ (assignInOrder [fun v => bindName X.env z v, fun v => bindName X.env y v, fun v => bindName X.env x v] [u3, u2, u1] >>= fun _ => pure Flow.next) _ _ _
  refine wpAny_bind (assignInOrder_cons (wpAny_bindName (store_ok I3 hN hk (.inl hz) r3 (fun s2 I4 => ?_) (.inr hz))))
  refine assignInOrder_cons (wpAny_bindName (store_ok I4 hN hj (.inl hy) rw' (fun s3 I5 => ?_) (.inr hy)))
  refine assignInOrder_cons (wpAny_bindName (store_ok I5 hN hi (.inl hx) rv (fun s4 I6 => assignInOrder_nil (wpAny_pure ?_)) (.inr hx)))
  rw [List.set_comm _ _ (Ne.symm hij), List.set_comm _ _ (Ne.symm hik), List.set_comm _ _ (Ne.symm hjk)] at I6
  exact ⟨_, H1, I6, q1⟩
def sPar3 (i j k : Nat) (fs : LS → LH → Out (List LV)) : LS → LH → Out LF := fun l h => (fs l h).bind fun vs h1 => match vs with
  | [v, w, x] => .ok (.nx (((l.set i (some v)).set j (some w)).set k (some x))) h1
  | _ => .no
theorem RVs.three_ {ρ : List Addr} {x y z : LV} {us : List V} (r : RVs ρ [x, y, z] us) : ∃ u v w, us = [u, v, w] ∧ RV ρ x u ∧ RV ρ y v ∧ RV ρ z w := by
  cases r with
  | cons r t => cases t with
    | cons r2 t => cases t with
      | cons r3 t => cases t; exact ⟨_, _, _, rfl, r, r2, r3⟩
theorem s_par3 {x y z : Str} {px py pz pt : Pos} {kt k2 pt2} (i j k : Nat) (hc : X.calm = true) (hN : X.N.Nodup) (ha : TrA C E X [a, b, c] fs) (hi : X.N[i]? = some x := by rfl) (hj : X.N[j]? = some y := by rfl) (hk : X.N[k]? = some z := by rfl) (hij : i ≠ j := by decide) (hik : i ≠ k := by decide) (hjk : j ≠ k := by decide)
    (hx : X.env.scope.names.lookup x = some .local := by rfl) (hy : X.env.scope.names.lookup y = some .local := by rfl) (hz : X.env.scope.names.lookup z = some .local := by rfl)
    (hw : swappedStores [.Tuple [.Name x px, .Name y py, .Name z pz] kt pt] (.Tuple [a, b, c] k2 pt2) X.env = pure (some [x, y, z]) := by rfl)
    (hs : swapsWithSole [.Tuple [.Name x px, .Name y py, .Name z pz] kt pt] (.Tuple [a, b, c] k2 pt2) pos.line X.env = pure false := by rfl) :
    TrS C E X (.Assign [.Tuple [.Name x px, .Name y py, .Name z pz] kt pt] (.Tuple [a, b, c] k2 pt2) pos) (sPar3 i j k fs) := by
  obtain ⟨t, p, m⟩ := ha
  refine ⟨_, ps_par3 hc hN hi hj hk hij hik hjk hx hy hz p hw hs, fun ρ h H l σ D R S o => m ρ h H l σ _ R S (EndsOk.bind o fun vs h1 ρ1 H1 us p1 R1 z o1 => ?_)⟩
  split at o1
  · obtain ⟨u, v, w, rfl, z1, z2, z3⟩ := z.three_
    exact ⟨u, v, w, rfl, o1 ρ1 H1 (pre.refl _) R1 _ ((((S.mono p1).set i z1).set j z2).set k z3)⟩
  · exact o1.elim
/-! name += int -/
def sAug (i : Nat) (fe : LS → LH → Out LV) : LS → LH → Out LF := fun l h => match nth l i with
  | some (.int a) => (fe l h).bind fun v h1 => match v with
    | .int b => .ok (.nx (l.set i (some (.int (a + b))))) h1
    | _ => .no
  | _ => .no
theorem s_aug {x : Str} {pos' : Pos} (i : Nat) (hN : X.N.Nodup) (he : TrE C E X e fe) (hi : X.N[i]? = some x := by rfl) (hx : Loc X.env.scope x := by first | exact Or.inl rfl | exact Or.inr rfl) (hf : X.fn x = true ∨ X.env.scope.names.lookup x = some .local := by first | exact .inl rfl | exact .inr rfl) :
    TrS C E X (.AugAssign (.Name x pos') .Add e pos) (sAug i fe) := by
  obtain ⟨t, p, j⟩ := he
  refine ⟨_, ps_aug hN hi hx p ip_add hf, fun ρ h H l σ D R S o => ?_⟩
  unfold sAug at o
  split at o
  · rename_i a e1
    obtain ⟨u, hu, z⟩ := S.2 i _ (nth_eq e1)
    cases z
    refine ⟨_, hu, j ρ h H l σ _ R S (EndsOk.bind o fun v h1 ρ1 H1 w p1 R1 z1 o1 => ?_)⟩
    cases z1 with
    | int b => exact ⟨a, b, rfl, rfl, o1 ρ1 H1 (pre.refl _) R1 _ ((S.mono p1).set i (.int _))⟩
    | _ => exact o1.elim
  · exact o.elim
/-! a name of the module that holds a plain value -/
theorem e_gc {x : Str} (v : LV) (f : flatL v = true) (h : ∃ u, X.mg x = some u ∧ RelV (vOf v) u) (hg : Gl X x := by rfl) (hd : (x == ("__debug__" : Str)) = false := by decide) : TrE C E X (.Name x pos) (eC v) := by
  obtain ⟨u, hm, r⟩ := h
  refine ⟨_, pe_glob hg hm r hd, im_c fun ρ => ?_⟩
  cases v with
  | non => exact .non
  | bl b => exact .bl b
  | int i => exact .int i
  | str x => exact .str x
  | ref n => cases f
end
/-! ### a dict of the module, texts to ints: those that are there, some that are not -/
structure KDic (K : PySem.W.Frag) (w : World) (p : Addr) (tab : List (List Nat × Int)) (mis : List (List Nat)) : Prop where
  ex : ∃ es n, K.lookup p = some ⟨.type "dict", none, .dict es n, #[]⟩ ∧ PySem.W.KeysLit w.params es.toList ∧ (∀ q, q ∈ tab → ∃ u, PySem.W.nsIn K p (sOf q.1) = some (some u) ∧ RelV (.int q.2) u) ∧ ∀ z, z ∈ mis → PySem.W.nsIn K p (sOf z) = some none
  lo : (p == sysModules) = false
def kdL (mis : List (List Nat)) (x : List Nat) : List (List Nat × Int) → Option (Option Int)
  | [] => match mis.any fun z => beqL z x with
    | true => some none
    | false => none
  | (z, i) :: r => match beqL z x with
    | true => some (some i)
    | false => kdL mis x r
section
variable {K : PySem.W.Frag} {w : World} {p : Addr} {tab : List (List Nat × Int)} {mis : List (List Nat)}
theorem kdL_ok {x : List Nat} {o : Option Int} : ∀ {tab : List (List Nat × Int)}, kdL mis x tab = some o → (∃ i, o = some i ∧ (x, i) ∈ tab) ∨ (o = none ∧ x ∈ mis)
  | [], h => by
    unfold kdL at h
    cases e : mis.any fun z => beqL z x with
    | false => rw [e] at h; cases h
    | true =>
      rw [e] at h
      cases h
      obtain ⟨z, hz, e2⟩ := List.any_eq_true.mp e
      rw [beqL_eq] at e2
      have := of_decide_eq_true e2
      subst this
      exact .inr ⟨rfl, hz⟩
  | (z, i) :: r, h => by
    unfold kdL at h
    cases e : beqL z x with
    | true =>
      rw [e] at h
      cases h
      rw [beqL_eq] at e
      have := of_decide_eq_true e
      subst this
      exact .inl ⟨i, rfl, List.mem_cons_self ..⟩
    | false =>
      rw [e] at h
      rcases kdL_ok h with ⟨j, h1, h2⟩ | h
      · exact .inl ⟨j, h1, List.mem_cons_of_mem _ h2⟩
      · exact .inr h
/-- what the dict gives for x -/
def KGiv (K : PySem.W.Frag) (p : Addr) (x : Str) (r : Option V) : Prop := match r with
  | some v => ∃ u, PySem.W.nsIn K p x = some (some u) ∧ RelV v u
  | none => PySem.W.nsIn K p x = some none
def ovI (o : Option Int) : Option LV := o.map .int
theorem KDic.giv (k : KDic K w p tab mis) {x : List Nat} {o : Option Int} (h : kdL mis x tab = some o) : KGiv K p (sOf x) (o.map V.int) := by
  obtain ⟨es, n, _, _, h1, h2⟩ := k.ex
  rcases kdL_ok h with ⟨i, rfl, hm⟩ | ⟨rfl, hm⟩
  · exact h1 _ hm
  · exact h2 _ hm
variable {C : Cst} {E : XK} {X : Cx} {a b e : Expr} {fe : LS → LH → Out LV} {pos : Pos}
def gKd (tab : List (List Nat × Int)) (mis : List (List Nat)) (g : Option Int → Option LV) : LV → LH → Out LV := fun x h => match x with
  | .str z => match kdL mis z tab with
    | some o => oV (g o) h
    | none => .no
  | _ => .no
def tKd (K : PySem.W.Frag) (p : Addr) (g : Option V → Option V) (te : TE) : TE := fun σ H Q => te σ H fun x H1 => ∃ z r v, x = .str z ∧ KGiv K p z r ∧ g r = some v ∧ Q v H1
theorem im_kd (k : KDic K w p tab mis) {te : TE} {g : Option Int → Option LV} {g' : Option V → Option V} (hg : ∀ o v, g o = some v → ∃ u, g' (o.map V.int) = some u ∧ ∀ ρ, RV ρ v u) (i : ImE C E te fe) : ImE C E (tKd K p g' te) (eUn (gKd tab mis g) fe) := fun ρ h H l σ Q R S o =>
  i ρ h H l σ _ R S (o.bind fun x h1 ρ1 H1 u p1 R1 z o1 => by
    cases z with
    | str z =>
      unfold gKd at o1
      dsimp only at o1
      cases e : kdL mis z tab with
      | none => rw [e] at o1; exact o1.elim
      | some r =>
        rw [e] at o1
        dsimp only at o1
        cases e2 : g r with
        | none => rw [e2] at o1; exact o1.elim
        | some v =>
          rw [e2] at o1
          obtain ⟨u, e3, hr⟩ := hg r v e2
          exact ⟨_, _, u, rfl, k.giv e, e3, o1.here R1 (hr ρ1)⟩
    | _ => exact o1.elim)
def gThere (neg : Bool) : Option Int → Option LV := fun o => some (.bl (if neg then !o.isSome else o.isSome))
def gItem : Option Int → Option LV := fun o => o.map .int
def gGet : Option Int → Option LV := fun o => some ((o.map LV.int).getD .non)
/-- e not in D, D a dict of the module -/
theorem pe_kdNot {te : TE} {x : Str} {pos2 : Pos} (k : KDic X.K X.w p tab mis) (he : PE X e te) (hg : Gl X x) (hm : X.mg x = some (.ref p)) (hd : (x == ("__debug__" : Str)) = false) (hmk : behindInMarks .NotIn (.Name x pos2) = false) : PE X (.Compare e [.NotIn] [.Name x pos2] pos) (tKd X.K p (fun r => some (.bl (!r.isSome))) te) := by
  refine ⟨fun pins s σ H Q I h => wpAny_Compare1 (thn (he.run pins s σ H _ I h) fun v s1 ⟨y, H1, I1, r1, q1⟩ => ?_) hmk⟩
  obtain ⟨z, r, v', rfl, hk, e1, q⟩ := q1
  cases e1
  obtain ⟨t, rfl⟩ := r1
  refine ld_glob I1 hg hm ?_ hd
  obtain ⟨es, n, hl, hkl, _, _⟩ := k.ex
  have hmo := PySem.W.mapOf_K (prog := X.prog) (w := X.w) I1.kIn hl hkl
  refine wpAny_notIn_of (strKind_is X.prog X.w z t) k.lo hmo ?_
  cases r with
  | none => rw [PySem.W.find_K hl hk]; exact ⟨.bl true, H1, I1.tok _, rfl, q⟩
  | some v =>
    obtain ⟨u, hu, ru⟩ := hk
    rw [PySem.W.find_K hl hu]; exact ⟨.bl false, H1, I1.tok _, rfl, q⟩
theorem e_kdNot {x : Str} {pos2 : Pos} (hk : ∃ p, X.mg x = some (.ref p) ∧ KDic X.K X.w p tab mis) (he : TrE C E X e fe) (hg : Gl X x := by rfl) (hd : (x == ("__debug__" : Str)) = false := by decide) (hmk : behindInMarks .NotIn (.Name x pos2) = false := by first | exact nomark _ | with_unfolding_all rfl) : TrE C E X (.Compare e [.NotIn] [.Name x pos2] pos) (eUn (gKd tab mis (gThere true)) fe) := by
  obtain ⟨p, hm, k⟩ := hk
  obtain ⟨t, q, i⟩ := he
  refine ⟨_, pe_kdNot k q hg hm hd hmk, im_kd k (fun o v e => ?_) i⟩
  cases o <;> cases e <;> exact ⟨_, rfl, fun _ => .bl _⟩
/-- D[e] -/
theorem pe_kdItem {te : TE} {x : Str} {pos2 : Pos} (k : KDic X.K X.w p tab mis) (he : PE X e te) (hg : Gl X x) (hm : X.mg x = some (.ref p)) (hd : (x == ("__debug__" : Str)) = false) (hs : PlainIx e) : PE X (.Subscript (.Name x pos2) e pos) (tKd X.K p (fun r => r) te) := by
  refine ⟨fun pins s σ H Q I h => Subscript_ (ld_glob I hg hm (thn (he.run pins s σ H _ I h) fun v s1 ⟨y, H1, I1, r1, q1⟩ => ?_) hd)⟩
  obtain ⟨z, r, v', rfl, hk, rfl, q⟩ := q1
  obtain ⟨t, rfl⟩ := r1
  obtain ⟨es, n, hl, hkl, _, _⟩ := k.ex
  have hmo := PySem.W.mapOf_K (prog := X.prog) (w := X.w) I1.kIn hl hkl
  obtain ⟨u, hu, ru⟩ := hk
  exact tail_any hmo.typeIs slot_dict_getitem.lookup (wpAny_getItem_of (strKind_is X.prog X.w z t) hmo (PySem.W.find_K hl hu) ⟨v', H1, I1.tok _, ru, q⟩) (hs _ _)
theorem e_kdItem {x : Str} {pos2 : Pos} (hk : ∃ p, X.mg x = some (.ref p) ∧ KDic X.K X.w p tab mis) (he : TrE C E X e fe) (hg : Gl X x := by rfl) (hd : (x == ("__debug__" : Str)) = false := by decide) (hs : PlainIx e := by exact fun _ _ => rfl) : TrE C E X (.Subscript (.Name x pos2) e pos) (eUn (gKd tab mis gItem) fe) := by
  obtain ⟨p, hm, k⟩ := hk
  obtain ⟨t, q, i⟩ := he
  refine ⟨_, pe_kdItem k q hg hm hd hs, im_kd k (fun o v e => ?_) i⟩
  cases o <;> cases e
  exact ⟨_, rfl, fun _ => .int _⟩
/-- D.get(e) -/
theorem pe_kdGet {te : TE} {x : Str} {pos2 apos cpos : Pos} (k : KDic X.K X.w p tab mis) (he : PE X e te) (hg : Gl X x) (hm : X.mg x = some (.ref p)) (hd : (x == ("__debug__" : Str)) = false) (m : L2.M1 X (.Name x pos2) "get" apos e cpos) :
    PE X (.Call (.Attribute (.Name x pos2) "get" apos) [e] [] cpos) (tKd X.K p (fun r => some (r.getD .non)) te) := by
  refine ⟨fun pins s σ H Q I h => wpAny_Call_method m.base m.few m.line PySem.F.plainAttrs_dict PySem.F.slot_dict_get PySem.F.type_dict_get (ld_glob I hg hm ?_ hd)⟩
  obtain ⟨es, n, hl, hkl, _, _⟩ := k.ex
  have hmo := PySem.W.mapOf_K (prog := X.prog) (w := X.w) I.kIn hl hkl
  refine ⟨hmo.typeIs, hmo.noDict, ?_⟩
  rw [m.trees]
  refine Calls.callWith_builtin rfl (Calls.evalArgs_plain (Calls.spliced_cons (thn (he.run pins s σ H _ I h) fun v s1 ⟨y, H1, I1, r1, q1⟩ => Calls.spliced_nil ?_)))
  obtain ⟨z, r, v', rfl, hk, e1, q⟩ := q1
  cases e1
  obtain ⟨t, rfl⟩ := r1
  have hmo := PySem.W.mapOf_K (prog := X.prog) (w := X.w) I1.kIn hl hkl
  refine call_meetsIn PySem.F.slot_dict_get hmo.typeIs PySem.F.entry_dict_get (PySem.F.args_dict_get_2 _ _) (meets_dict_get (strKind X.prog X.w) p (strKind_is X.prog X.w z t) k.lo) ⟨_, hmo, ?_⟩
  cases r with
  | none => rw [PySem.W.find_K hl hk]; exact ⟨.non, H1, I1.tok _, rfl, q⟩
  | some v =>
    obtain ⟨u, hu, ru⟩ := hk
    rw [PySem.W.find_K hl hu]; exact ⟨v, H1, I1.tok _, ru, q⟩
theorem e_kdGet {x : Str} {pos2 apos cpos : Pos} (hk : ∃ p, X.mg x = some (.ref p) ∧ KDic X.K X.w p tab mis) (he : TrE C E X e fe) (hg : Gl X x := by rfl) (hd : (x == ("__debug__" : Str)) = false := by decide) (m : L2.M1 X (.Name x pos2) "get" apos e cpos := by exact ⟨rfl, rfl, rfl, rfl⟩) :
    TrE C E X (.Call (.Attribute (.Name x pos2) "get" apos) [e] [] cpos) (eUn (gKd tab mis gGet) fe) := by
  obtain ⟨p, hm, k⟩ := hk
  obtain ⟨t, q, i⟩ := he
  refine ⟨_, pe_kdGet k q hg hm hd m, im_kd k (fun o v e => ?_) i⟩
  cases o with
  | none => cases e; exact ⟨_, rfl, fun _ => .non⟩
  | some i => cases e; exact ⟨_, rfl, fun _ => .int _⟩
end
/-! ### d[None] = v: behind it nothing is said of the dict -/
def leafOf : Key → Leaf
  | .inl i => .num i
  | .inr x => .text x
theorem leafOf_inj {a b : Key} (h : leafOf a = leafOf b) : a = b := by
  cases a <;> cases b <;> cases h <;> rfl
theorem leaf_is {k : Key} {u : Value} (h : keyIs k u = true) : Leaf.isOf (leafOf k) u = true := by
  rcases keyIs_shape h with ⟨i, t, rfl, rfl⟩ | ⟨x, t, rfl, rfl⟩
  · exact decide_eq_true rfl
  · exact h
theorem leaf_hash {P : Program} {w : World} (k : Key) : (leafKind P w).hash (leafOf k) = (mixKind P w).hash k := by
  cases k <;> rfl
theorem leaf_dict {P : Program} {w : World} {h : Heap} {a : Addr} {vs : List (Key × Value)} (d : h.DictOf (mixKind P w) a vs) : h.DictOf (leafKind P w) a (vs.map fun p => (leafOf p.1, p.2)) := by
  obtain ⟨o, es, ep, h1, h2, h3, h4, h5, h6⟩ := d
  refine ⟨o, es, ep, h1, h2, h3, fun e he => ?_, ?_, ?_⟩
  · obtain ⟨k, k1, k2⟩ := h4 e he
    exact ⟨leafOf k, leaf_is k1, by rw [k2, leaf_hash]⟩
  · clear h6 h4 h3
    generalize es.toList = l at h5
    induction h5 with
    | nil => exact .nil
    | cons q1 q2 _ ih => exact .cons (leaf_is q1) q2 ih
  · rw [List.map_map]
    have e : (Prod.fst ∘ fun (p : Key × Value) => (leafOf p.1, p.2)) = leafOf ∘ Prod.fst := rfl
    rw [e, ← List.map_map]
    exact List.Pairwise.map leafOf (fun _ _ hne e => hne (leafOf_inj e)) h6
def sDPutN (fd fk fv : LS → LH → Out LV) : LS → LH → Out LF := fun l h => (fv l h).bind fun v h1 => (fd l h1).bind fun x h2 => (fk l h2).bind fun y h3 => match dicW x h3 with
  | some d => match keyL y with
    | some k => match Nat.blt d.length 100000 with
      | true => h3.upd (idL x) (.dic (putL d k v)) fun h4 => .ok (.nx l) h4
      | false => .no
    | none => match y with
      | .non => match Nat.blt d.length 100000 with
        | true => h3.upd (idL x) .opq fun h4 => .ok (.nx l) h4
        | false => .no
      | _ => .no
  | none => .no
def tDPutN (td ty tv : TE) : TS := fun D σ H => tv σ H fun v H1 => td σ H1 fun x H2 => ty σ H2 fun y H3 => ∃ a, x = .ref a ∧ ((∃ H4, DPut H3 a y v H4 ∧ D.nx σ H4) ∨ (y = .non ∧ ∃ kvs, H3 a = some (.dK kvs) ∧ kvs.length < sizeLine ∧ D.nx σ (upd H3 a (.ext fun _ => True))))
section
variable {C : Cst} {E : XK} {X : Cx} {a b value : Expr} {fa fb fv : LS → LH → Out LV} {pos pos' : Pos} {td ty tv : TE}
theorem ps_dputN (hu : X.A.units + 1 < cLine) (ho : PE X a td) (hi : PE X b ty) (hv : PE X value tv) (hs : swapsWith value (some (.Subscript a b pos')) pos.line X.env = pure false) :
    PS X (.Assign [.Subscript a b pos'] value pos) (tDPutN td ty tv) := by
  refine ⟨fun pins s σ H D I h => ?_⟩
  refine wpAny_Assign_Subscript (thn (hv.run pins s σ H _ I h) fun r s1 ⟨v, H1, I1, rv, q1⟩ => thn (ho.run pins s1 σ H1 _ I1 q1) fun u s2 ⟨x, H2, I2, rx, q2⟩ => thn (hi.run pins s2 σ H2 _ I2 q2) fun iv s3 ⟨y, H3, I3, ry, a, ex, q3⟩ => ?_) hs
  subst ex
  obtain rfl : u = Value.ref a := rx
  rcases q3 with ⟨H4, g, q3⟩ | ⟨rfl, kvs, e, l, q3⟩
  · exact d_setItem hu I3 g ry rv fun s4 I4 => ⟨σ, H4, I4, q3⟩
  · cases ry
    obtain ⟨z, hd, vs, rel, dd⟩ := dk_of I3.hok e
    have hz : (vs.map fun p => (leafOf p.1, p.2)).length ≤ sizeLine := by rw [List.length_map, ← rel.length]; exact z
    refine wpAny_setItem_pairs (hsz := hz) (knd := leafKind X.prog X.w) (k := .none) rfl (leaf_dict dd) fun h' dd' hs => ?_
    have he : ∃ q, h'.get? a = some q := let ⟨q, _, _, hq, _⟩ := dd'; ⟨q, hq⟩
    exact ⟨σ, _, d_write (ob := .ext fun _ => True) I3 (by rw [e]; exact True.intro) hs he ⟨trivial, he, fun _ _ _ _ => trivial⟩, q3⟩
theorem s_dputN (hu : X.A.units + 1 < cLine) (ha : TrE C E X a fa) (hb : TrE C E X b fb) (hv : TrE C E X value fv) (hs : swapsWith value (some (.Subscript a b pos')) pos.line X.env = pure false := by rfl) :
    TrS C E X (.Assign [.Subscript a b pos'] value pos) (sDPutN fa fb fv) := by
  obtain ⟨t, p, i⟩ := ha
  obtain ⟨t', q, j⟩ := hb
  obtain ⟨t2, s, k⟩ := hv
  refine ⟨_, ps_dputN hu p q s hs, fun ρ h H l σ D R S o => k ρ h H l σ _ R S (EndsOk.bind o fun v h1 ρ1 H1 w p1 R1 z1 o1 => i ρ1 h1 H1 l σ _ R1 (S.mono p1) (EndsOk.bind o1 fun x h2 ρ2 H2 u p2 R2 z2 o2 =>
    j ρ2 h2 H2 l σ _ R2 ((S.mono p1).mono p2) (EndsOk.bind o2 fun y h3 ρ3 H3 uy p3 R3 z3 o3 => ?_)))⟩
  cases e1 : dicW x h3 with
  | none => rw [e1] at o3; exact o3.elim
  | some d =>
    rw [e1] at o3
    dsimp only at o3
    obtain ⟨A, kvs, hA, _, rfl, r, hd⟩ := dicW_ok R3 (z2.mono p3) e1
    have hS := (((S.mono p1).mono p2).mono p3)
    cases e2 : keyL y with
    | some kk =>
      rw [e2] at o3
      dsimp only at o3
      cases e3 : Nat.blt d.length 100000 with
      | false => rw [e3] at o3; exact o3.elim
      | true =>
        rw [e3] at o3
        have := blt_lt e3
        have hl : kvs.length < sizeLine := by rw [← Paired.length r, sizeLine_eq]; omega
        obtain ⟨R4, o4⟩ := EndsOk.upd (u' := .dK (putK kvs (kOf kk) w)) o3 R3 hA hd thing_dK ⟨_, putL_ok kk r (z1.mono (p2.trans p3)), upd_same⟩
        exact ⟨A, rfl, .inl ⟨_, .inl ⟨kvs, kOf kk, hd, keyL_ok z3 e2, hl, rfl⟩, o4 ρ3 _ (pre.refl _) R4 σ hS⟩⟩
    | none =>
      rw [e2] at o3
      cases z3 with
      | non =>
        dsimp only at o3
        cases e3 : Nat.blt d.length 100000 with
        | false => rw [e3] at o3; exact o3.elim
        | true =>
          rw [e3] at o3
          have := blt_lt e3
          have hl : kvs.length < sizeLine := by rw [← Paired.length r, sizeLine_eq]; omega
          obtain ⟨R4, o4⟩ := EndsOk.upd (u' := .ext fun _ => True) o3 R3 hA hd thing_dK (show RO C ρ3 _ A .opq from upd_same)
          exact ⟨A, rfl, .inr ⟨rfl, kvs, hd, hl, o4 ρ3 _ (pre.refl _) R4 σ hS⟩⟩
      | _ => exact o3.elim
end
/-! ### what the run never reaches -/
section
variable {C : Cst} {E : XK} {X : Cx}
theorem e_no {e : Expr} : TrE C E X e (fun _ _ => .no) := ⟨fun _ _ _ => False, ⟨fun _ _ _ _ _ _ h => h.elim⟩, fun _ _ _ _ _ _ _ _ o => o.elim⟩
theorem t_no {e : Expr} : TrT C E X e (fun _ _ => .no) := ⟨fun _ _ _ => False, ⟨fun _ _ _ _ _ _ h => h.elim⟩, fun _ _ _ _ _ _ _ _ o => o.elim⟩
theorem s_no {s : Stmt} : TrS C E X s (fun _ _ => .no) := ⟨fun _ _ _ => False, ⟨fun _ _ _ _ _ _ h => h.elim⟩, fun _ _ _ _ _ _ _ _ o => o.elim⟩
theorem ss_no {s : List Stmt} : TrSs C E X s (fun _ _ => .no) := ⟨fun _ _ _ => False, ⟨fun _ _ _ _ _ _ h => h.elim⟩, fun _ _ _ _ _ _ _ _ o => o.elim⟩
theorem i_no {tg e : Expr} : TrI C E X tg e (fun _ _ => .no) := ⟨fun _ _ _ => False, ⟨fun _ _ _ _ _ _ h => h.elim⟩, fun _ _ _ _ _ _ _ _ o => o.elim⟩
end
end MR
set_option maxHeartbeats 4000000
/-! Mirror 12: instances: slots read and stored, methods, properties, own [..], len, ==, isinstance. -/
namespace MR
open PySem PySem.Spec PyProof.Rows L2

def insL (v : LV) (h : LH) : Option (Nat × LS) := match v with
  | .ref i => match h.t.get i with
    | some (.ins c sl) => some (c, sl)
    | _ => none
  | _ => none
section
variable {C : Cst} {E : XK} {X : Cx} {ρ : List Addr} {h : LH} {H : Hp}
theorem insL_ok {v : LV} {u : V} {c : Nat} {sl : LS} (R : Rel C ρ h H) (z : RV ρ v u) (e : insL v h = some (c, sl)) : ∃ a dx vs, ρ[idL v]? = some a ∧ v = .ref (idL v) ∧ u = .ref a ∧ RSl ρ sl vs ∧ SlX.Slt H a (C.cls c) dx vs ∧
    ((H a = some (.ins (C.cls c) dx []) ∧ vs = [] ∧ H dx = some (.own a)) ∨ (H a = some (SlX.SlO a (C.cls c) dx vs) ∧ H dx = some (.xd []))) := by
  cases z with
  | @ref i a ha =>
    obtain ⟨o, ho, r⟩ := R.obj ha
    unfold insL at e
    dsimp only at e
    rw [ho] at e
    cases o with
    | ins c' sl' =>
      cases e
      obtain ⟨dx, vs, q, w⟩ := r
      refine ⟨a, dx, vs, ha, rfl, rfl, q, ?_, w⟩
      rcases w with ⟨w1, w2, _⟩ | w
      · exact .inl ⟨w1, w2⟩
      · exact .inr w
    | _ => cases e
  | _ => cases e
/-! ### e.f, a slot -/
def eAttr (ix : Nat → Option Nat) (f : LS → LH → Out LV) : LS → LH → Out LV := fun l h => (f l h).bind fun x h1 => match insL x h1 with
  | some (c, sl) => match ix c with
    | some j => oV (nth sl j) h1
    | none => .no
  | none => .no
/-- the slot f in the classes -/
def SlotIx (C : Cst) (K : PySem.W.Frag) (f : Str) (ix : Nat → Option Nat) : Prop := ∀ c j, ix c = some j → SlX.SCls K (C.cls c) ∧ ∃ p, SlX.Slot1 K (C.cls c) f p j
variable {e o value : Expr} {f : LS → LH → Out LV} {fv : LS → LH → Out LV} {x m : Str} {pos pos' apos p : Pos}
theorem e_attr {ix : Nat → Option Nat} (hx : SlotIx C X.K x ix) (he : TrE C E X e f) (hb : attributeBase e x X.env (eval e X.env) = eval e X.env := by rfl) : TrE C E X (.Attribute e x pos) (eAttr ix f) := by
  obtain ⟨t, p, i⟩ := he
  refine ⟨_, SlX.pe_sl p hb, fun ρ h H l σ Q R S o => i ρ h H l σ _ R S (o.bind fun v h1 ρ1 H1 u p1 R1 z o1 => ?_)⟩
  cases e : insL v h1 with
  | none => rw [e] at o1; exact o1.elim
  | some q =>
    obtain ⟨c, sl⟩ := q
    rw [e] at o1
    dsimp only at o1
    cases e2 : ix c with
    | none => rw [e2] at o1; exact o1.elim
    | some j =>
      rw [e2] at o1
      dsimp only at o1
      cases e3 : nth sl j with
      | none => rw [e3] at o1; exact o1.elim
      | some w =>
        rw [e3] at o1
        obtain ⟨a, dx, vs, ha, _, rfl, zs, sl', _⟩ := insL_ok R1 z e
        obtain ⟨k1, pp, k2⟩ := hx c j e2
        obtain ⟨u', h1, h2⟩ := zs.2 j w (nth_eq e3)
        exact ⟨a, _, dx, pp, vs, j, u', rfl, sl', k1, k2, h1, o1.here R1 h2⟩
/-! e.f = value -/
def putSL (i : Nat) (v : LV) (l : LS) : LS := (l ++ List.replicate (i + 1 - l.length) none).set i (some v)
theorem putSL_ok {l : LS} {vs : List (Option V)} (r : RSl ρ l vs) (i : Nat) {v : LV} {u : V} (z : RV ρ v u) : RSl ρ (putSL i v l) (SlX.putS i u vs) := by
  have r2 : RSl ρ (l ++ List.replicate (i + 1 - l.length) none) (vs ++ List.replicate (i + 1 - vs.length) none) := by
    refine ⟨by simp [r.1], fun j w hj => ?_⟩
    by_cases hl : j < l.length
    · rw [List.getElem?_append_left hl] at hj
      obtain ⟨u, h1, h2⟩ := r.2 j w hj
      exact ⟨u, by rw [List.getElem?_append_left (by rw [← r.1]; exact hl)]; exact h1, h2⟩
    · rw [List.getElem?_append_right (by omega), List.getElem?_replicate] at hj
      split at hj <;> cases hj
  exact r2.set i z
theorem upd_slot {i c : Nat} {a dx : Addr} {vs vs' : List (Option V)} {sl' : LS} (R : Rel C ρ h H) (ha : ρ[i]? = some a) (hn : h.n < 2 ^ 19) (r : RSl ρ sl' vs')
    (w : (H a = some (.ins (C.cls c) dx []) ∧ vs = [] ∧ H dx = some (.own a)) ∨ (H a = some (SlX.SlO a (C.cls c) dx vs) ∧ H dx = some (.xd []))) (ne : dx ≠ a) : Rel C ρ ⟨h.n, h.t.put 20 i (.ins c sl')⟩ (SlX.slH H a (C.cls c) dx vs') := by
  have Ha : ∃ u, H a = some u ∧ Thing u := by
    rcases w with ⟨w, _⟩ | ⟨w, _⟩
    · exact ⟨_, w, thing_ins⟩
    · exact ⟨_, w, thing_slO⟩
  obtain ⟨ua, hua, tua⟩ := Ha
  have Hd : ∃ u, H dx = some u ∧ (u = .own a ∨ u = .xd []) := by
    rcases w with ⟨_, _, w⟩ | ⟨_, w⟩
    · exact ⟨_, w, .inl rfl⟩
    · exact ⟨_, w, .inr rfl⟩
  obtain ⟨ud, hud, tud⟩ := Hd
  have nd : ∀ {b u}, H b = some u → Still u → b ≠ dx := fun {b u} e st q => by
    rw [q, hud] at e; cases e
    rcases tud with z | z
    · exact st.2.1 _ z
    · exact st.2.2.1 z
  refine R.set ha hn (fun b u hb st nb => by rw [SlX.slH_ne nb (nd hb st)]; exact hb) (fun b d u hb nb hd z => ?_) ?_ (fun p hp q => ?_) ⟨dx, vs', r, .inr ⟨by unfold SlX.slH; exact upd_same, by unfold SlX.slH; rw [upd_ne ne, upd_same]⟩⟩
  · have na : d ≠ a := fun q => by
      rw [q, hua] at hd; cases hd
      rcases z with z | z
      · exact tua.1.2.1 _ z
      · exact tua.1.2.2.1 z
    by_cases q : d = dx
    · subst q
      rw [hud] at hd; cases hd
      unfold SlX.slH
      rw [upd_ne na, upd_same]
      rcases z with z | z
      · rcases tud with t | t
        · rw [t] at z
          injection z with z
          exact absurd z.symm nb
        · rw [t] at z; cases z
      · rw [z]
    · rw [SlX.slH_ne na q]; exact hd
  · refine R.tabs.keep fun b u hb tb => ?_
    rw [SlX.slH_ne]
    · exact hb
    · intro z
      rw [z, hua] at hb; cases hb
      exact tua.1.tab tb
    · intro z
      rw [z, hud] at hb; cases hb
      rcases tb with ⟨ps, e⟩ | ⟨oc, c, P, q, e⟩
      · rcases tud with t | t
        · rw [t] at e; cases e
        · rw [t] at e; cases e
      · rcases tud with t | t
        · rw [t] at e; cases e
        · rw [t] at e; cases e
  · obtain ⟨h1, o', w', h2⟩ := R.frz p hp
    rw [q, hua, h2] at h1; cases h1
    exact tua.2 _ _ rfl
def sAttr (ix : Nat → Option Nat) (fo fv : LS → LH → Out LV) : LS → LH → Out LF := fun l h => (fv l h).bind fun v h1 => (fo l h1).bind fun x h2 => match insL x h2 with
  | some (c, sl) => match ix c with
    | some j => match Nat.blt h2.n 500000 with
      | true => .ok (.nx l) (putH h2 (idL x) (.ins c (putSL j v sl)))
      | false => .no
    | none => .no
  | none => .no
theorem slt_ne {pins : List (Addr × Obj)} {σ : L2.St} {s : Shared} {a D dx : Addr} {vs : List (Option V)} (I : Inv X pins σ H s) (k : SlX.Slt H a D dx vs) : dx ≠ a := (SlX.slt_at I k).1
def sSlN (K : PySem.W.Frag) (ta tv : TE) (f : Str) : TS := fun D σ H => tv σ H fun y H1 => ta σ H1 fun x H2 => ∃ a C dx p vs i, x = .ref a ∧ SlX.Slt H2 a C dx vs ∧ SlX.SCls K C ∧ SlX.Slot1 K C f p i ∧ (dx ≠ a → D.nx σ (SlX.slH H2 a C dx (SlX.putS i y vs)))
theorem ps_slN {ta tv : TE} (ha : PE X o ta) (hv : PE X value tv) (hs : swapsWith value (some (.Attribute o x pos')) pos.line X.env = pure false) : PS X (.Assign [.Attribute o x pos'] value pos) (sSlN X.K ta tv x) := by
  refine ⟨fun pins s σ H D I h => ?_⟩
  refine plainObj_wpAny_Assign_Attribute (thn (hv.run pins s σ H _ I h) fun u s1 ⟨y, H1, I1, ry, q⟩ => thn (ha.run pins s1 σ H1 _ I1 q) fun ov s2 ⟨x, H2, I2, rx, a, C, dx, p, vs, i, ex, hsl, c, t, q2⟩ => ?_) hs
  subst ex
  obtain rfl : ov = Value.ref a := rx
  exact SlX.setslot_ok I2 hsl c t ry fun s3 I3 => ⟨σ, _, I3, q2 (slt_ne I2 hsl)⟩
theorem s_attr {ix : Nat → Option Nat} (hx : SlotIx C X.K x ix) (ho : TrE C E X o f) (hv : TrE C E X value fv) (hs : swapsWith value (some (.Attribute o x pos')) pos.line X.env = pure false := by rfl) : TrS C E X (.Assign [.Attribute o x pos'] value pos) (sAttr ix f fv) := by
  obtain ⟨t, p, i⟩ := ho
  obtain ⟨t', q, j⟩ := hv
  refine ⟨_, ps_slN p q hs, fun ρ h H l σ D R S o => j ρ h H l σ _ R S (EndsOk.bind o fun v h1 ρ1 H1 u p1 R1 z o1 => i ρ1 h1 H1 l σ _ R1 (S.mono p1) (EndsOk.bind o1 fun xx h2 ρ2 H2 u2 p2 R2 z2 o2 => ?_))⟩
  cases e : insL xx h2 with
  | none => rw [e] at o2; exact o2.elim
  | some qq =>
    obtain ⟨c, sl⟩ := qq
    rw [e] at o2
    dsimp only at o2
    cases e2 : ix c with
    | none => rw [e2] at o2; exact o2.elim
    | some jj =>
      rw [e2] at o2
      dsimp only at o2
      cases e3 : Nat.blt h2.n 500000 with
      | false => rw [e3] at o2; exact o2.elim
      | true =>
        rw [e3] at o2
        have hn := blt_lt e3
        obtain ⟨a, dx, vs, ha, _, rfl, zs, sl', w⟩ := insL_ok R2 z2 e
        obtain ⟨k1, pp, k2⟩ := hx c jj e2
        exact ⟨a, _, dx, pp, vs, jj, rfl, sl', k1, k2, fun ne => o2 ρ2 _ (pre.refl _) (upd_slot R2 ha (by omega) (putSL_ok zs jj (z.mono p2)) w ne) σ ((S.mono p1).mono p2)⟩
/-! ### methods -/
/-- the def m in the classes: a number's class has it, and it keeps its promise -/
structure MethT (P : Program) (w : World) (K : PySem.W.Frag) (mg : Str → Option Value) (base : Heap) (C : Cst) (m : Str) (cs : List Nat) (k n : Nat) (g : Fn) : Prop where
  ex : ∀ c, c ∈ cs → ∃ a, SlX.SCls K (C.cls c) ∧ Meth K (C.cls c) m a ∧ FnR P w K mg base (L2.CX P w) k a (spM C n g)
def hasC (c : Nat) : List Nat → Bool
  | [] => false
  | d :: r => match Nat.beq d c with
    | true => true
    | false => hasC c r
theorem hasC_ok {c : Nat} : ∀ {cs : List Nat}, hasC c cs = true → c ∈ cs
  | [], h => by cases h
  | d :: r, h => by
    unfold hasC at h
    cases e : Nat.beq d c with
    | true => have := Nat.eq_of_beq_eq_true e; subst this; exact List.mem_cons_self ..
    | false => rw [e] at h; exact List.mem_cons_of_mem _ (hasC_ok h)
/-- o.m(..); what the receiver lets out is not spoken of -/
def eMethN (cs : List Nat) (n : Nat) (g : Fn) (f : LS → LH → Out LV) (fs : LS → LH → Out (List LV)) : LS → LH → Out LV := fun l h => match f l h with
    | .ok x h1 => match insL x h1 with
      | some (c, _) => match hasC c cs with
        | true => (fs l h1).bind fun xs h2 => match Nat.beq (xs.length + 1) n with
          | true => g (x :: xs) h2
          | false => .no
        | false => .no
      | none => .no
    | .ex c d h => .no
    | .no => .no
variable {es : List Expr} {fs : LS → LH → Out (List LV)} {cs : List Nat} {k n : Nat} {g : Fn}
theorem im_meth {ta : TE} {t : TA} (i : ImE C E ta f) (j : ImA C E t fs) : ImE C E (fun σ H Q => ∃ c, c ∈ cs ∧ SlX.tMethSl (C.cls c) (spM C n g) E ta t σ H Q) (eMethN cs n g f fs) := fun ρ h H l σ Q R S o => by
  unfold eMethN at o
  cases e0 : f l h with
  | no => rw [e0] at o; exact o.elim
  | ex c d h => rw [e0] at o; exact o.elim
  | ok x h1 =>
    rw [e0] at o
    dsimp only at o
    cases e : insL x h1 with
    | none => rw [e] at o; exact o.elim
    | some q =>
      obtain ⟨c, sl⟩ := q
      rw [e] at o
      dsimp only at o
      cases e2 : hasC c cs with
      | false => rw [e2] at o; exact o.elim
      | true =>
        rw [e2] at o
        dsimp only at o
        refine ⟨c, hasC_ok e2, ?_⟩
        suffices hh : ∀ ρ1 H1 u, pre ρ ρ1 → Rel C ρ1 h1 H1 → RV ρ1 x u → ∃ a dx vs, u = V.ref a ∧ SlX.Slt H1 a (C.cls c) dx vs ∧ t σ H1 fun ws H2 => spM C n g (u :: ws) H2 Q E from i ρ h H l σ _ R S (by rw [e0]; exact hh)
        intro ρ1 H1 u p1 R1 z
        obtain ⟨a, dx, vs, _, _, rfl, _, sl', _⟩ := insL_ok R1 z e
        refine ⟨a, dx, vs, rfl, sl', j ρ1 h1 H1 l σ _ R1 (S.mono p1) (OkG.bind (o.mono p1) fun xs h2 ρ2 H2 us p2 R2 zs o2 => ?_)⟩
        cases e3 : Nat.beq (xs.length + 1) n with
        | false => rw [e3] at o2; exact o2.elim
        | true =>
          rw [e3] at o2
          exact ⟨by rw [List.length_cons, ← zs.length]; exact Nat.eq_of_beq_eq_true e3, ρ2, h2, x :: xs, R2, .cons (z.mono p2) zs, o2⟩
theorem e_meth {a : Expr} {pl : Sem Bool} (M : MethT X.prog X.w X.K X.mg X.base C m cs k n g) (hr : Room k X.A) (hx : Passes (L2.CX X.prog X.w) X E) (he : TrE C E X o f) (ha : TrA C E X (a :: es) fs)
    (hst : starEach (a :: es) X.env = (false, eval a X.env) :: starEach es X.env := by rfl) (hpl : (backTo pos (starEach es X.env)).any (·.1) = false := by rfl)
    (ht : eval (.Call (.Attribute o m apos) (a :: es) [] pos) X.env = (do
      let ov ← eval o X.env
      standAt apos.atName
      let (f, first) ← holding [ov] (getMethod ov m pl)
      callWith pos f first (backTo pos (starEach (a :: es) X.env)) (backToKw pos (keywordEach [] X.env))) := by rfl) : TrE C E X (.Call (.Attribute o m apos) (a :: es) [] pos) (eMethN cs n g f fs) := by
  obtain ⟨t, p, i⟩ := he
  obtain ⟨t', q, j⟩ := ha
  exact ⟨_, ⟨fun pins s σ H Q I ⟨c, hc, hw⟩ => let ⟨b, k1, k2, k3⟩ := M.ex c hc; (SlX.pe_methSl p k1 k2 k3 hr hx q hst hpl ht).run pins s σ H Q I hw⟩, im_meth i j⟩
theorem e_meth0 {pl : Sem Bool} (M : MethT X.prog X.w X.K X.mg X.base C m cs k n g) (hr : Room k X.A) (hx : Passes (L2.CX X.prog X.w) X E) (he : TrE C E X o f)
    (ht : eval (.Call (.Attribute o m apos) [] [] pos) X.env = (do
      let ov ← eval o X.env
      standAt apos.atName
      let (f, first) ← holding [ov] (getMethod ov m pl)
      callWith pos f first (backTo pos (starEach [] X.env)) (backToKw pos (keywordEach [] X.env))) := by rfl) : TrE C E X (.Call (.Attribute o m apos) [] [] pos) (eMethN cs n g f aNil) := by
  obtain ⟨t, p, i⟩ := he
  exact ⟨_, ⟨fun pins s σ H Q I ⟨c, hc, hw⟩ => let ⟨b, k1, k2, k3⟩ := M.ex c hc; (SlX.pe_methSl0 p k1 k2 k3 hr hx ht).run pins s σ H Q I hw⟩, im_meth i fun ρ h H l σ Q R S o => o.here R .nil⟩
/-! ### properties -/
structure PropT (P : Program) (w : World) (K : PySem.W.Frag) (mg : Str → Option Value) (base : Heap) (C : Cst) (m : Str) (cs : List Nat) (k : Nat) (g : Fn) : Prop where
  ex : ∀ c, c ∈ cs → ∃ p a, SlX.SCls K (C.cls c) ∧ PySem.W.findIn K (.ref (C.cls c)) m = some (some (.ref p)) ∧ PySem.W.specialIn K (.ref p) "__get__" = some (some (.builtin "property.__get__")) ∧
    PySem.W.takesIn K (.ref p) = some true ∧ (∃ rest, PySem.W.recIn K p "property" = some (.ref a :: rest)) ∧ FnR P w K mg base (L2.CX P w) k a (spM C 1 g)
def eProp (cs : List Nat) (g : Fn) (f : LS → LH → Out LV) : LS → LH → Out LV := fun l h => match f l h with
  | .ok x h1 => match insL x h1 with
    | some (c, _) => match hasC c cs with
      | true => noEx (g [x] h1)
      | false => .no
    | none => .no
  | _ => .no
theorem e_prop (M : PropT X.prog X.w X.K X.mg X.base C m cs k g) (hr : Room (k + 1) X.A) (he : TrE C E X e f) (hb : attributeBase e m X.env (eval e X.env) = eval e X.env := by rfl) : TrE C E X (.Attribute e m pos) (eProp cs g f) := by
  obtain ⟨t, p, i⟩ := he
  have no : ∀ (H : Hp) (s : Shared) (e : Value) (s' : Shared), L2.CX X.prog X.w X.stack H s E0 e s' → False := fun H s e s' h => by
    obtain ⟨_, _, _, _, _, _, _, _, _, _, _, _, z⟩ := h
    exact z.elim
  refine ⟨fun σ H Q => ∃ c, c ∈ cs ∧ SlX.tPropSl (C.cls c) (spM C 1 g) E0 t σ H Q, ⟨fun pins s σ H Q I ⟨c, hc, hw⟩ => ?_⟩, fun ρ h H l σ Q R S o => ?_⟩
  · obtain ⟨pp, a, k1, k2, k3, k4, k5, k6⟩ := M.ex c hc
    exact (SlX.pe_propSl p k1 k2 k3 k4 k5 k6 hr no hb).run pins s σ H Q I hw
  · unfold eProp at o
    cases e0 : f l h with
    | no => rw [e0] at o; exact o.elim
    | ex c d h => rw [e0] at o; exact o.elim
    | ok x h1 =>
      rw [e0] at o
      dsimp only at o
      cases e : insL x h1 with
      | none => rw [e] at o; exact o.elim
      | some q =>
        obtain ⟨c, sl⟩ := q
        rw [e] at o
        dsimp only at o
        cases e2 : hasC c cs with
        | false => rw [e2] at o; exact o.elim
        | true =>
          rw [e2] at o
          refine ⟨c, hasC_ok e2, ?_⟩
          suffices hh : ∀ ρ1 H1 u, pre ρ ρ1 → Rel C ρ1 h1 H1 → RV ρ1 x u → ∃ a dx vs, u = V.ref a ∧ SlX.Slt H1 a (C.cls c) dx vs ∧ spM C 1 g [.ref a] H1 Q E0 from i ρ h H l σ _ R S (by rw [e0]; exact hh)
          intro ρ1 H1 u p1 R1 z
          obtain ⟨a, dx, vs, _, _, rfl, _, sl', _⟩ := insL_ok R1 z e
          exact ⟨a, dx, vs, rfl, sl', rfl, ρ1, h1, [x], R1, .cons z .nil, (noEx_ok o).mono p1⟩
/-! ### o[i] by an own def -/
structure OwnG (P : Program) (w : World) (K : PySem.W.Frag) (mg : Str → Option Value) (base : Heap) (C : Cst) (m : Str) (cs : List Nat) (k n : Nat) (g : Fn) : Prop where
  ex : ∀ c, c ∈ cs → ∃ a, PySem.W.findIn K (.ref (C.cls c)) m = some (some (.ref a)) ∧ PySem.W.isFn K (.ref a) = true ∧ PySem.W.fnIn K a = true ∧ FnR P w K mg base (L2.CX P w) k a (spM C n g)
def gOwn (cs : List Nat) (g : Fn) : LV → LV → LH → Out LV := fun x y h => match insL x h with
  | some (c, _) => match hasC c cs with
    | true => g [x, y] h
    | false => .no
  | none => .no
def rOwnIx (C : Cst) (cs : List Nat) (g : Fn) (E : XK) : R2 := fun x y H Q => ∃ a c dx vs, c ∈ cs ∧ x = .ref a ∧ SlX.Slt H a (C.cls c) dx vs ∧ spM C 2 g [x, y] H Q E
theorem ix_own (M : OwnG X.prog X.w X.K X.mg X.base C "__getitem__" cs k 2 g) (hr : Room (k + 1) X.A) (hx : Passes (L2.CX X.prog X.w) X E) (value slice : Expr) (hsl : ∀ x i, subscripted slice true x i = runValue (.builtin "lifetime.subscript" ⟨[x, i], []⟩)) :
    ∀ (pins : List (Addr × Obj)) (s : Shared) (σ : L2.St) (H : Hp) (x y : V) (v u : Value) (Q : VK), Inv X pins σ H s → RelV x v → RelV y u → rOwnIx C cs g E x y H Q →
      wpAny (model X.prog X.w) X.A (subscriptTail value slice v u) (EP X pins σ Q) X.xe s := by
  intro pins s σ H x y v u Q I rx ry h
  obtain ⟨a, c, dx, vs, hc, rfl, hs, q⟩ := h
  cases rx
  obtain ⟨fa, k1, k2, k3, k4⟩ := M.ex c hc
  obtain ⟨sl, od, _, J, _⟩ := SlX.slt_inst I hs
  obtain ⟨m, F⟩ := I.fr
  refine PySem.W.sub_K F I.ok.mod.kin J k1 k3 k2 (wpAny_call (SlX.run_at (us := [.ref a, u]) (ws := [.ref a, y]) k4 hr.in1 I.env0.in1 hx I (.cons rfl (.cons ry .nil)) q)) (hsl _ _)
theorem e_ownIx {a b : Expr} {fa fb : LS → LH → Out LV} (M : OwnG X.prog X.w X.K X.mg X.base C "__getitem__" cs k 2 g) (hr : Room (k + 1) X.A) (hx : Passes (L2.CX X.prog X.w) X E) (ha : TrE C E X a fa) (hb : TrE C E X b fb)
    (hsl : ∀ x i, subscripted b true x i = runValue (.builtin "lifetime.subscript" ⟨[x, i], []⟩) := by intro _ _; with_unfolding_all rfl) : TrE C E X (.Subscript a b pos) (eOp (gOwn cs g) fa fb) := by
  obtain ⟨t, p, i⟩ := ha
  obtain ⟨t', q, j⟩ := hb
  refine ⟨tOp (rOwnIx C cs g E) t t', ⟨fun pins s σ H Q I h => Subscript_ (binT p q I h fun v u s2 x y H2 I2 rx ry q => ix_own M hr hx a b hsl pins s2 σ H2 x y v u Q I2 rx ry q)⟩, im_op (fun ρ h H x y u v Q R z1 z2 o => ?_) i j⟩
  unfold gOwn at o
  cases e : insL x h with
  | none => rw [e] at o; exact o.elim
  | some q =>
    obtain ⟨c, sl⟩ := q
    rw [e] at o
    dsimp only at o
    cases e2 : hasC c cs with
    | false => rw [e2] at o; exact o.elim
    | true =>
      rw [e2] at o
      obtain ⟨a, dx, vs, _, _, rfl, _, sl', _⟩ := insL_ok R z1 e
      exact ⟨a, c, dx, vs, hasC_ok e2, rfl, sl', rfl, ρ, h, [x, y], R, .cons z1 (.cons z2 .nil), o⟩
/-! ### == of instances by an own def -/
def gOwnEq (cs : List Nat) (g : Fn) : LV → LV → LH → Out LV := fun x y h => match insL x h with
  | some (c, _) => match insL y h with
    | some (d, _) => match hasC c cs && Nat.beq c d with
      | true => g [x, y] h
      | false => .no
    | none => .no
  | none => .no
theorem op_ownEq (M : OwnG X.prog X.w X.K X.mg X.base C "__eq__" cs k 2 g) (hr : Room k X.A) (hx : Passes (L2.CX X.prog X.w) X E) : OpR X (compareOp .Eq) (fun x y H Q => ∃ c, c ∈ cs ∧ SlX.rOwn X.K (C.cls c) (spM C 2 g) E x y H Q) := by
  intro pins s σ H x y v u Q I rx ry ⟨c, hc, h⟩
  obtain ⟨a, k1, k2, k3, k4⟩ := M.ex c hc
  exact SlX.op_own (op := .Eq) (fun _ _ => rfl) k1 k2 k4 hr hx pins s σ H x y v u Q I rx ry h
theorem im_ownEq (K : PySem.W.Frag) : Im2 C E (fun x y H Q => ∃ c, c ∈ cs ∧ SlX.rOwn K (C.cls c) (spM C 2 g) E x y H Q) (gOwnEq cs g) := fun ρ h H x y u v Q R z1 z2 o => by
  unfold gOwnEq at o
  cases e : insL x h with
  | none => rw [e] at o; exact o.elim
  | some q =>
    obtain ⟨c, sl⟩ := q
    rw [e] at o
    dsimp only at o
    cases e1 : insL y h with
    | none => rw [e1] at o; exact o.elim
    | some q =>
      obtain ⟨d, sl2⟩ := q
      rw [e1] at o
      dsimp only at o
      cases e2 : hasC c cs && Nat.beq c d with
      | false => rw [e2] at o; exact o.elim
      | true =>
        rw [e2] at o
        rw [Bool.and_eq_true] at e2
        have := Nat.eq_of_beq_eq_true e2.2
        subst this
        obtain ⟨a, dx, vs, _, _, rfl, _, sl', _⟩ := insL_ok R z1 e
        obtain ⟨b, dy, ws, _, _, rfl, _, sl'', _⟩ := insL_ok R z2 e1
        refine ⟨c, hasC_ok e2.1, a, dx, vs, b, _, dy, ws, rfl, rfl, sl', sl'', ?_, rfl, ρ, h, [x, y], R, .cons z1 (.cons z2 .nil), o⟩
        unfold PySem.W.notFirst
        simp
/-! ### isinstance(e, own class) -/
def eIsCls (ic : Nat → Option Bool) (f : LS → LH → Out LV) : LS → LH → Out LV := fun l h => (f l h).bind fun v h1 => match tyOf v h1 with
  | some _ => .ok (.bl false) h1
  | none => match insL v h1 with
    | some (c, _) => match ic c with
      | some b => .ok (.bl b) h1
      | none => .no
    | none => .no
/-- what isinstance(.., the class at D) says: of the classes, of the built-in kinds -/
structure IsC (K : PySem.W.Frag) (C : Cst) (D : Addr) (ic : Nat → Option Bool) : Prop where
  own : ∀ c b, ic c = some b → SlX.SCls K (C.cls c) ∧ SlX.SIsi K (C.cls c) ∧ PySem.W.kitOne K (.ref (C.cls c)) (.ref D) = some b
  ty : ∀ t, t ∈ ["NoneType", "bool", "int", "str", "list", "tuple", "dict"] → PySem.W.kitOne K (.type t) (.ref D) = some false
theorem tyOf_mem {v : LV} {h : LH} {t : String} (e : tyOf v h = some t) : t ∈ ["NoneType", "bool", "int", "str", "list", "tuple", "dict"] := by
  unfold tyOf at e
  cases v with
  | non => cases e; decide
  | bl _ => cases e; decide
  | int _ => cases e; decide
  | str _ => cases e; decide
  | ref i =>
    dsimp only at e
    split at e <;> cases e <;> decide
def rIsC (K : PySem.W.Frag) (D : Addr) : List V → Hp → VK → Prop := fun xs H Q => (∃ (x c : V) (t c' : Value) (b : Bool), xs = [x, c] ∧ c = .ref D ∧ c' = .ref D ∧ TyX K H x t ∧ PySem.W.kitOne K t (.ref D) = some b ∧ Q (.bl b) H) ∨ SlX.rIsiSl K (.ref D) xs H Q
theorem e_isCls {D : Addr} {ic : Nat → Option Bool} {p2 : Pos} (hk : IsC X.K C D ic) (hm : X.mg "isinstance" = none) (hD : X.mg x = some (.ref D)) (he : TrE C E X e f) (hgl : Gl X "isinstance" := by rfl) (hgT : Gl X x := by rfl) (hd : (x == ("__debug__" : Str)) = false := by decide)
    (hs : starEach [e, .Name x p2] X.env = (false, eval e X.env) :: starEach [.Name x p2] X.env := by rfl) (hpl : (backTo pos (starEach [.Name x p2] X.env)).any (·.1) = false := by rfl) :
    TrE C E X (.Call (.Name "isinstance" p) [e, .Name x p2] [] pos) (eIsCls ic f) := by
  obtain ⟨t, q, i⟩ := he
  have hb : PE X (.Name x p2) (tC (.ref D)) := pe_glob hgT hD rfl hd
  refine ⟨_, pe_callB (CallR.or call_isi (SlX.call_isiSl (.ref D))) hgl hm boot_isi (pa_cons q (pa_cons hb pa_nil) hs) (by decide) (by decide) hs hpl, fun ρ h H l σ Q R S o => i ρ h H l σ _ R S (o.bind fun v h1 ρ1 H1 u p1 R1 z o1 => ?_)⟩
  cases e1 : tyOf v h1 with
  | some t =>
    rw [e1] at o1
    exact .inl ⟨u, .ref D, .type t, .ref D, false, rfl, .own D, tyOf_ok R1 z e1, hk.ty t (tyOf_mem e1), o1.here R1 (.bl false)⟩
  | none =>
    rw [e1] at o1
    dsimp only at o1
    cases e2 : insL v h1 with
    | none => rw [e2] at o1; exact o1.elim
    | some qq =>
      obtain ⟨c, sl⟩ := qq
      rw [e2] at o1
      dsimp only at o1
      cases e3 : ic c with
      | none => rw [e3] at o1; exact o1.elim
      | some b =>
        rw [e3] at o1
        obtain ⟨a, dx, vs, _, _, rfl, _, sl', _⟩ := insL_ok R1 z e2
        obtain ⟨k1, k2, k3⟩ := hk.own c b e3
        exact .inr ⟨a, _, dx, vs, .ref D, b, rfl, rfl, fun w hw => hw, sl', k1, k2, k3, o1.here R1 (.bl b)⟩
end
end MR
set_option maxHeartbeats 4000000
/-! Mirror 13: instances made; a def whose cells stand beside a captured __class__; super().m(..). -/
namespace MR
open PySem PySem.Spec PyProof.Rows L2

/-! ### C(..) -/
def newI (cn : Nat) (h : LH) (k : Nat → LH → Out LV) : Out LV := h.new (.ins cn []) k
def mkM (cn : Nat) (m : Fn) (vs : List LV) (h : LH) : Out LV := h.new (.ins cn []) fun x h1 => (m (.ref x :: vs) h1).bind fun v h2 => match v with
  | .non => .ok (.ref x) h2
  | _ => .no
section
variable {C : Cst} {E : XK} {X : Cx} {cn n : Nat} {m : Fn}
theorem mk_ok {ρ : List Addr} {h : LH} {H : Hp} {vs : List LV} {us : List V} {Q : VK} (R : Rel C ρ h H) (z : RVs ρ vs us) (hl : us.length + 1 = n) (o : OkG C E RV ρ (mkM cn m vs h) Q) {x dx : Addr} (nx : H x = none) (nd : H dx = none) (ne : dx ≠ x) :
    spM C n m (.ref x :: us) (upd (upd H dx (.own x)) x (.ins (C.cls cn) dx [])) (fun v H2 => v = .non ∧ Q (.ref x) H2) E := by
  unfold mkM LH.new at o
  rw [frN_eq] at o
  cases e : Nat.blt h.n 1000000 with
  | false => rw [e] at o; exact o.elim
  | true =>
    rw [e] at o
    dsimp only at o
    have R2 : Rel C (ρ ++ [x]) ⟨h.n + 1, h.t.put 20 h.n (.ins cn [])⟩ (upd (upd H dx (.own x)) x (.ins (C.cls cn) dx [])) := by
      refine R.new nx (fun b w hb => ?_) ⟨dx, [], ⟨rfl, fun i v h => (by simp at h)⟩, .inl ⟨upd_same, rfl, by rw [upd_ne ne, upd_same]⟩⟩ (by have := blt_lt e; omega)
      rw [upd_ne (ne_of_none hb nx), upd_ne (ne_of_none hb nd)]; exact hb
    have ex : (ρ ++ [x])[h.n]? = some x := by rw [← R.len, List.getElem?_append_right (Nat.le_refl _)]; simp
    refine ⟨by rw [List.length_cons]; exact hl, ρ ++ [x], _, .ref h.n :: vs, R2, .cons (.ref ex) (z.mono (pre.app _ _)), ?_⟩
    refine OkG.bind (S := RV) (o.mono (pre.app _ _)) fun v h2 ρ2 H2 u p2 Rl z2 o2 => ?_
    cases z2 with
    | non => exact ⟨rfl, o2.here Rl (.ref (p2 _ _ ex))⟩
    | _ => exact o2.elim
def eMake (cn n : Nat) (m : Fn) (ds : List LV) (fs : LS → LH → Out (List LV)) : LS → LH → Out LV := fun l h => (fs l h).bind fun vs h1 => match Nat.beq (vs.length + 1 + ds.length) n with
  | true => mkM cn m (vs ++ ds) h1
  | false => .no
/-- a class that is made: its number, its __init__ -/
structure MkT (P : Program) (w : World) (K : PySem.W.Frag) (mg : Str → Option Value) (base : Heap) (C : Cst) (x : Str) (cn k n : Nat) (m : Fn) (ds : List LV) : Prop where
  ex : ∃ (f : Addr) (fd : FuncData) (ps : List Str) (dvs : List V) (dws : List Value), Mk K (C.cls cn) f ∧ ps.length = n ∧ FnOk P w K mg base (L2.CX P w) k f fd ps (spM C n m) ∧ mg x = some (.ref (C.cls cn)) ∧ Binds K fd ps dws ∧ Vals dvs dws ∧ ∀ ρ, RVs ρ ds dvs
variable {x : Str} {e : Expr} {es : List Expr} {fs : LS → LH → Out (List LV)} {p pos : Pos} {k : Nat} {ds : List LV}
theorem e_make (M : MkT X.prog X.w X.K X.mg X.base C x cn k n m ds) (hr : Room (k + 1) X.A) (hx : Passes (L2.CX X.prog X.w) X E) (ha : TrA C E X (e :: es) fs) (hg : Gl X x := by rfl) (hdb : (x == ("__debug__" : Str)) = false := by decide)
    (he : starEach (e :: es) X.env = (false, eval e X.env) :: starEach es X.env := by rfl) (hpl : (backTo pos (starEach es X.env)).any (·.1) = false := by rfl) : TrE C E X (.Call (.Name x p) (e :: es) [] pos) (eMake cn n m ds fs) := by
  obtain ⟨f, fd, ps, dvs, dws, k1, k2, k3, k4, k5, k6, k7⟩ := M.ex
  obtain ⟨t, q, i⟩ := ha
  refine ⟨_, pe_make k1 k3 hr hg k4 k5 k6 hx q hdb he hpl, fun ρ h H l σ Q R S o => i ρ h H l σ _ R S (o.bind fun vs h1 ρ1 H1 us p1 R1 z o1 => ?_)⟩
  cases e : Nat.beq (vs.length + 1 + ds.length) n with
  | false => rw [e] at o1; exact o1.elim
  | true =>
    rw [e] at o1
    have hn := Nat.eq_of_beq_eq_true e
    have kd := k7 ρ1
    intro x dx nx nd ne
    exact mk_ok R1 (z.append kd) (by rw [List.length_append, ← z.length, ← kd.length]; omega) o1 nx nd ne
/-! C(.., k = v, ..) -/
def aKw : LS → LH → Out (List LV) := aNil
def TrK (C : Cst) (E : XK) (X : Cx) (kws : List Keyword) (f : LS → LH → Out (List LV)) : Prop := ∃ t, PK X kws t ∧ ImA C E t f
theorem k_nil : TrK C E X [] aNil := ⟨_, pk_nil, fun ρ h H l σ Q R S o => o.here R .nil⟩
theorem k_cons {kws : List Keyword} {fe : LS → LH → Out LV} {nm : Option Str} {kpos : Pos} (ha : TrE C E X e fe) (hr : TrK C E X kws fs) : TrK C E X (⟨nm, e, kpos⟩ :: kws) (aCons fe fs) := by
  obtain ⟨t, p, i⟩ := ha
  obtain ⟨t', q, j⟩ := hr
  exact ⟨_, pk_cons p q, fun ρ h H l σ Q R S o => i ρ h H l σ _ R S (o.bind fun v h1 ρ1 H1 u p1 R1 z o1 => j ρ1 h1 H1 l σ _ R1 (S.mono p1) (o1.bind fun vs h2 ρ2 H2 us p2 R2 zs o2 => o2.here R2 (.cons (z.mono p2) zs)))⟩
/-- n values are written, then the keywords ks in the parameters' order: nothing lacks -/
structure MkK (P : Program) (w : World) (K : PySem.W.Frag) (mg : Str → Option Value) (base : Heap) (C : Cst) (x : Str) (cn k j : Nat) (ks : List Str) (m : Fn) : Prop where
  ex : ∃ (f : Addr) (fd : FuncData) (ps : List Str), Mk K (C.cls cn) f ∧ FnOk P w K mg base (L2.CX P w) k f fd ps (spM C (j + 1 + ks.length) m) ∧ mg x = some (.ref (C.cls cn)) ∧ KBn K fd ps (j + 1) ks (fun us ws => us ++ ws) (fun vs zs => vs ++ zs)
def eMakeK (cn j r : Nat) (m : Fn) (fs gs : LS → LH → Out (List LV)) : LS → LH → Out LV := fun l h => (fs l h).bind fun vs h1 => (gs l h1).bind fun zs h2 => match Nat.beq vs.length j && Nat.beq zs.length r with
  | true => mkM cn m (vs ++ zs) h2
  | false => .no
theorem e_makeK {kws : List Keyword} {gs : LS → LH → Out (List LV)} {j : Nat} {ks : List Str} (M : MkK X.prog X.w X.K X.mg X.base C x cn k j ks m) (hr : Room (k + 1) X.A) (hx : Passes (L2.CX X.prog X.w) X E) (ha : TrA C E X (e :: es) fs) (hk : TrK C E X kws gs) (hg : Gl X x := by rfl)
    (hall : (backToKw pos (keywordEach kws X.env)).all (·.1.isSome) = true := by rfl) (hks : (backToKw pos (keywordEach kws X.env)).filterMap (·.1) = ks := by rfl) (hdb : (x == ("__debug__" : Str)) = false := by decide)
    (he : starEach (e :: es) X.env = (false, eval e X.env) :: starEach es X.env := by rfl) (hpl : ((backTo pos (starEach (e :: es) X.env)).any (·.1) || (backToKw pos (keywordEach kws X.env)).any (·.1.isNone)) = false := by rfl) :
    TrE C E X (.Call (.Name x p) (e :: es) kws pos) (eMakeK cn j ks.length m fs gs) := by
  obtain ⟨f, fd, ps, k1, k2, k3, k4⟩ := M.ex
  obtain ⟨t, q, i⟩ := ha
  obtain ⟨t', q', i'⟩ := hk
  refine ⟨_, pe_makeK k1 k2 hr hg k3 k4 hx q q' hall hks hdb he hpl, fun ρ h H l σ Q R S o => i ρ h H l σ _ R S (o.bind fun vs h1 ρ1 H1 us p1 R1 z o1 => i' ρ1 h1 H1 l σ _ R1 (S.mono p1) (o1.bind fun zs h2 ρ2 H2 ws p2 R2 z2 o2 => ?_))⟩
  cases e : Nat.beq vs.length j && Nat.beq zs.length ks.length with
  | false => rw [e] at o2; exact o2.elim
  | true =>
    rw [e] at o2
    rw [Bool.and_eq_true] at e
    have e1 := Nat.eq_of_beq_eq_true e.1
    have e2 := Nat.eq_of_beq_eq_true e.2
    refine ⟨z.length.symm.trans e1, z2.length.symm.trans e2, fun x dx nx nd ne => ?_⟩
    exact mk_ok R2 ((z.mono p2).append z2) (by rw [List.length_append, ← z.length, ← z2.length]; omega) o2 nx nd ne
end
/-! ### a def with cells of its own beside captured ones -/
section
variable {M : Model} {A : Around} {E : Value → Shared → Prop} {s₀ s : Shared} {m cm : Str → Option Value} {env : Env} {own : List (Str × Addr)}
theorem stL' {n : Str} {v : Value} {Q : Unit → Shared → Prop} (x : InCallC s₀ env.locals m own cm s) (hk : env.scope.kind = .function) (hl : env.kindOf n = some .local)
    (h : ∀ s', InCallC s₀ env.locals (fun y => if y = n then some v else m y) own cm s' → Q () s') : wpAny M A (storeName env n v) Q E s := by
  refine wpAny_storeName_local hl x.toInCall.ns (fun h' hn' hs' => h _ ⟨⟨?_, hn', fun b o e => ?_, x.toInCall.fresh⟩, fun k c hc => ?_, x.apart, x.above⟩) (by rw [hk]; rfl)
  · obtain ⟨h₁, tk, rfl⟩ := x.toInCall.same
    exact ⟨h', _, rfl⟩
  · exact hs'.extBut b o (Nat.ne_of_lt (Nat.lt_of_lt_of_le (Heap.lt_size e) x.toInCall.fresh)) (x.toInCall.keep b o e)
  · exact (x.cell k c hc).sameBut hs' (Nat.ne_of_gt (x.above k c (mem_of_lookup hc)))
theorem stC' {n : Str} {c : Addr} {v : Value} {Q : Unit → Shared → Prop} (x : InCallC s₀ env.locals m own cm s) (hk : env.scope.kind = .function) (hl : env.kindOf n = some .cell)
    (hc : env.cells.lookup n = some c) (ho : own.lookup n = some c)
    (h : ∀ s', InCallC s₀ env.locals m own (fun y => if y = n then some v else cm y) s' → Q () s') : wpAny M A (storeName env n v) Q E s := by
  have hLc := x.above n c (mem_of_lookup ho)
  refine wpAny_storeName_cell hk hl hc (x.cell n c ho) fun h' hc' hs' => h _ ⟨⟨?_, x.toInCall.ns.sameBut hs' (Nat.ne_of_lt hLc), fun b o e => ?_, x.toInCall.fresh⟩, fun k c' hk' => ?_, x.apart, x.above⟩
  · obtain ⟨h₁, tk, rfl⟩ := x.toInCall.same
    exact ⟨h', _, rfl⟩
  · exact hs'.extBut b o (Nat.ne_of_lt (Nat.lt_trans (Nat.lt_of_lt_of_le (Heap.lt_size e) x.toInCall.fresh) hLc)) (x.toInCall.keep b o e)
  · by_cases hkn : k = n
    · subst hkn
      rw [ho] at hk'; cases hk'
      simpa using hc'
    · rw [if_neg hkn]
      exact (x.cell k c' hk').sameBut hs' fun e => hkn (name_of_addr x.apart (mem_of_lookup hk') (e ▸ mem_of_lookup ho))
theorem bind' (f : Str × Value → PUnit → Sem (ForInStep PUnit)) (hf : ∀ n v u, f (n, v) u = (do storeName env n v; pure (.yield ⟨⟩))) (hk : env.scope.kind = .function) :
    ∀ (binds : List (Str × Value)) (m cm : Str → Option Value) (s : Shared) (Q : PUnit → Shared → Prop), InCallC s₀ env.locals m own cm s →
      (∀ x ∈ binds, env.kindOf x.1 = some .local ∨ (env.kindOf x.1 = some .cell ∧ ∃ c, env.cells.lookup x.1 = some c ∧ own.lookup x.1 = some c)) →
      (∀ s', InCallC s₀ env.locals (bindL env.kindOf binds m) own (bindC env.kindOf binds cm) s' → Q ⟨⟩ s') → wpAny M A (forIn binds ⟨⟩ f) Q E s
  | [], m, cm, s, Q, x, _, h => by rw [List.forIn_nil]; exact wpAny_pure (h s x)
  | (n, v) :: r, m, cm, s, Q, x, hkind, h => by
    rw [List.forIn_cons, hf]
    have hr := fun y hy => hkind y (List.mem_cons_of_mem _ hy)
    rcases hkind (n, v) List.mem_cons_self with hl | ⟨hl, c, hc, ho⟩
    · refine wpAny_bind (wpAny_bind (stL' x hk hl fun s' x' => wpAny_pure (bind' f hf hk r _ _ s' Q x' hr fun s'' x'' => h s'' ?_)))
      unfold bindL bindC; rw [if_pos hl, if_pos hl]; exact x''
    · have hnl : ¬ env.kindOf n = some .local := by rw [hl]; decide
      refine wpAny_bind (wpAny_bind (stC' x hk hl hc ho fun s' x' => wpAny_pure (bind' f hf hk r _ _ s' Q x' hr fun s'' x'' => h s'' ?_)))
      unfold bindL bindC; rw [if_neg hnl, if_neg hnl]; exact x''
end
theorem cellsFrom_app : ∀ (names : List (Str × NameKind)) (n : Nat) (acc : List (Str × Addr)), cellsFrom n names acc = cellsFrom n names [] ++ acc
  | [], _, _ => rfl
  | (nm, kd) :: r, n, acc => by
    unfold cellsFrom
    split
    · rw [cellsFrom_app r (n + 1) ((nm, n) :: acc), cellsFrom_app r (n + 1) [(nm, n)], List.append_assoc]; rfl
    · exact cellsFrom_app r n acc
theorem look_app {α : Type} {x : Str} {c : α} : ∀ {a b : List (Str × α)}, a.lookup x = some c → (a ++ b).lookup x = some c := fun {a b} h => by rw [List.lookup_append, h]; rfl
theorem newEnvS {M : Model} {A : Around} {E : Value → Shared → Prop} {s : Shared} {scope : Scope} {globals : Addr} {binds : List (Str × Value)} {qual : Str} {func : Option Addr} {code : Value} {builtins : Addr} {clo : List (Str × Addr)} {Q : Env → Shared → Prop}
    (hk : scope.kind = .function)
    (hkind : ∀ x ∈ binds, scope.names.lookup x.1 = some .local ∨ (scope.names.lookup x.1 = some .cell ∧ ((cellsFrom (s.heap.objs.size + 1) scope.names []).lookup x.1).isSome = true))
    (hQ : ∀ env, env = newEnv scope s.heap.objs.size globals (cellsFrom (s.heap.objs.size + 1) scope.names [] ++ clo) qual func code none builtins →
      ∀ s', InCallC s env.locals (bindL env.kindOf binds fun _ => none) (cellsFrom (s.heap.objs.size + 1) scope.names []) (bindC env.kindOf binds fun _ => none) s' → Q env s') :
    wpAny M A (newFunctionEnv scope globals clo binds qual func code none builtins) Q E s := by
  simp only [newFunctionEnv, Option.isSome_none, Bool.false_eq_true, if_false]
  refine wpAny_bind (wpAny_alloc ?_)
  refine wpAny_bind (wpAny_layCells _ (fun name kind cells => by cases hkc : kind == NameKind.cell <;> simp [hkc]) _ _ _ _ ?_)
  have ok := cellsFrom_ok scope.names (s.heap.push { cls := .type "frame", data := .dict #[] }) (s.heap.objs.size + 1) [] ⟨fun _ _ hm => (nomatch hm), List.Pairwise.nil⟩ (by rw [Heap.size_push]; exact Nat.le_refl _)
  rw [Heap.size_push] at ok
  rw [show ({ s with heap := s.heap.push { cls := .type "frame", data := .dict #[] } } : Shared).heap.objs.size = s.heap.objs.size + 1 from Heap.size_push ..]
  rw [cellsFrom_app]
  refine wpAny_bind (bind' (s₀ := s) (own := cellsFrom (s.heap.objs.size + 1) scope.names []) (env := newEnv scope s.heap.objs.size globals (cellsFrom (s.heap.objs.size + 1) scope.names [] ++ clo) qual func code none builtins)
    _ (fun _ _ _ => rfl) hk binds (fun _ => none) (fun _ => none) _ _
    ⟨⟨⟨_, _, rfl⟩, (Heap.Ns.new s.heap (.type "frame")).keeps (pushCells_keeps _ _), fun b o e => pushCells_keeps _ _ b o (Heap.get?_push_of_some _ e), Nat.le_refl _⟩,
      fun n c hc => (ok.empty n c (mem_of_lookup hc)).1, ok.apart, fun n c hm => (ok.empty n c hm).2⟩
    (fun x hx => (hkind x hx).imp id fun ⟨h1, h2⟩ => ⟨h1, by obtain ⟨c, hc⟩ := Option.isSome_iff_exists.mp h2; exact ⟨c, look_app hc, hc⟩⟩) fun s' x => wpAny_pure (hQ _ rfl s' x))
end MR
set_option maxHeartbeats 4000000
/-! Mirror 14: a method that captures __class__, and super().m(..) in its body. -/
namespace MR
open PySem PySem.Spec PyProof.Rows L2

structure SScope (N P : List Str) (sc : Scope) : Prop where
  kind : sc.kind = .function
  co : sc.isCoroutine = false
  gen : sc.isGenerator = false
  nd : N.Nodup
  pre : N.take P.length = P
  par : ∀ x ∈ P, sc.names.lookup x = some .local ∨ sc.names.lookup x = some .cell
  free : ∀ y ∈ sc.names, y.2 = .free → y.1 = cw
  cls : ∀ y ∈ sc.names, y.1 = cw → y.2 = .free
  out : cw ∉ N
def sscB (N P : List Str) (sc : Scope) : Bool :=
  (match sc.kind with | .function => true | _ => false) && !sc.isCoroutine && !sc.isGenerator && decide N.Nodup && decide (N.take P.length = P) && P.all (fun x => decide (sc.names.lookup x = some .local) || decide (sc.names.lookup x = some .cell)) &&
    sc.names.all (fun y => !decide (y.2 = .free) || decide (y.1 = cw)) && sc.names.all (fun y => !decide (y.1 = cw) || decide (y.2 = .free)) && decide (cw ∉ N)
theorem sscope_by {N P : List Str} {sc : Scope} (h : sscB N P sc = true) : SScope N P sc := by
  unfold sscB at h
  simp only [Bool.and_eq_true, Bool.not_eq_true', decide_eq_true_eq, List.all_eq_true, Bool.or_eq_true, decide_eq_false_iff_not] at h
  obtain ⟨⟨⟨⟨⟨⟨⟨⟨h1, h2⟩, h3⟩, h4⟩, h5⟩, h6⟩, h7⟩, h8⟩, h9⟩ := h
  refine ⟨?_, h2, h3, h4, h5, h6, fun y hy e => (h7 y hy).elim (fun z => absurd e z) id, fun y hy e => (h8 y hy).elim (fun z => absurd e z) id, h9⟩
  split at h1
  · assumption
  · cases h1
abbrev envS (qual : Str) (sc : Scope) (L f : Addr) (cd : Value) (cc : Addr) : Env := PySem.W.envX qual sc L f cd (cellsFrom (L + 1) sc.names [] ++ [(cw, cc)])
/-- the context of its body -/
def cxS (CX : CXT) (P : Program) (w : World) (K : PySem.W.Frag) (mg : Str → Option Value) (base : Heap) (N : List Str) (qual : Str) (scope : Scope) (f : Addr) (cd : Value) (cc : Addr) (A : Around) (outer : List Env) (s : Shared) (H : Hp) (E : XK) : Cx where
  prog := P
  w := w
  K := K
  mg := mg
  base := base
  A := A.deeper (envS qual scope s.heap.objs.size f cd cc)
  N := N
  s_0 := s
  H_0 := H
  env := envS qual scope s.heap.objs.size f cd cc
  outer := outer
  stack := envS qual scope s.heap.objs.size f cd cc :: outer
  ex := []
  calm := true
  fn := fun x => scope.names.lookup x == some .cell
  pn := []
  xe := fun e s' => wpAny (model P w) (A.deeper (envS qual scope s.heap.objs.size f cd cc)) (leaving (envS qual scope s.heap.objs.size f cd cc) e) (fun _ s'' => CX outer H s E e s'') (fun e' s'' => CX outer H s E e' s'') s'
theorem cells_kind : ∀ {names : List (Str × NameKind)} {n : Nat} {acc : List (Str × Addr)} {x : Str} {c : Addr}, (x, c) ∈ cellsFrom n names acc → (x, .cell) ∈ names ∨ (x, c) ∈ acc
  | [], _, _, _, _, h => .inr h
  | (nm, kd) :: r, n, acc, x, c, h => by
    unfold cellsFrom at h
    split at h
    · rename_i hk
      rcases cells_kind h with h | h
      · exact .inl (List.mem_cons_of_mem _ h)
      · rcases List.mem_cons.mp h with e | h
        · cases e
          rw [beq_iff_eq.mp hk]
          exact .inl (List.mem_cons_self ..)
        · exact .inr h
    · rcases cells_kind h with h | h
      · exact .inl (List.mem_cons_of_mem _ h)
      · exact .inr h
section
variable {CX : CXT} {P : Program} {w : World} {K : PySem.W.Frag} {mg : Str → Option Value} {base : Heap} {N ps : List Str} {qual : Str} {scope : Scope} {f cc : Addr} {cd : Value} {A : Around} {outer : List Env} {s s1 : Shared} {H : Hp} {E : XK} {us : List Value} {vs : List V}
theorem own_cls (S : SScope N ps scope) {n : Nat} : (cellsFrom n scope.names []).lookup cw = none := by
  cases e : (cellsFrom n scope.names []).lookup cw with
  | none => rfl
  | some c =>
    rcases cells_kind (PySem.mem_of_lookup e) with h | h
    · have := S.cls _ h rfl
      cases this
    · cases h
theorem lookS {n : Nat} {x : Str} {c : Addr} (h : (cellsFrom n scope.names [] ++ [(cw, cc)]).lookup x = some c) : (cellsFrom n scope.names []).lookup x = some c ∨ ((cellsFrom n scope.names []).lookup x = none ∧ x = cw ∧ c = cc) := by
  rw [List.lookup_append] at h
  cases e : (cellsFrom n scope.names []).lookup x with
  | some d => rw [e] at h; exact .inl h
  | none =>
    rw [e] at h
    have h : List.lookup x [(cw, cc)] = some c := h
    rw [List.lookup_cons] at h
    split at h
    · rename_i q
      cases h
      exact .inr ⟨rfl, beq_iff_eq.mp q, rfl⟩
    · cases h
theorem inv_startS {D : Value} (S : SScope N ps scope) (hd : A.handled = none) (e0 : Env0 P w K mg base A outer s H) (hl : vs.length = ps.length) (r : Vals vs us) (hcc : ∃ oc dx sl, K.lookup cc = some ⟨oc, dx, .cell (some D), sl⟩)
    (x : InCallC s s.heap.objs.size (bindL (envS qual scope s.heap.objs.size f cd cc).kindOf (ps.zip us) fun _ => none) (cellsFrom (s.heap.objs.size + 1) scope.names []) (bindC (envS qual scope s.heap.objs.size f cd cc).kindOf (ps.zip us) fun _ => none) s1) :
    Inv (cxS CX P w K mg base N qual scope f cd cc A outer s H E) [] (L2.start N vs) H s1 := by
  have hpl : ps.length ≤ N.length := by have := congrArg List.length S.pre; rw [List.length_take] at this; omega
  obtain ⟨h1, tk, rfl, hk⟩ := x.done
  obtain ⟨oc, dx, sl, hcc⟩ := hcc
  have ccb : base.get? cc = some ⟨oc, dx, .cell (some D), sl⟩ := e0.mod.kin _ _ hcc
  have ccs := (e0.bs _ _ ccb).1
  have ccl : cc < s.heap.objs.size := Heap.lt_size ccs
  have noA : ∀ b : Addr, b ∉ (cxS CX P w K mg base N qual scope f cd cc A outer s H E).ex := fun b z => absurd (show b ∈ ([] : List Addr) from z) (by simp)
  have abv : ∀ {y : Str} {c : Addr}, (cellsFrom (s.heap.objs.size + 1) scope.names []).lookup y = some c → s.heap.objs.size < c := fun {y c} h => x.above y c (PySem.mem_of_lookup h)
  refine ⟨⟨e0.mod, S.kind, rfl, rfl, Nat.le_refl _, fun y z c h1 h2 => ?_, fun y hy => ?_, fun y c hf h => ?_, fun _ => hd, Around.frames_deeper e0.frames, .inr ⟨rfl, rfl⟩, fun b z => absurd z (noA b), e0.bs, e0.bsz, fun b _ _ => noA b, fun b z => absurd z (noA b), e0.funs, e0.frf⟩,
    rfl, e0.bare, Un.kept hk, ⟨_, x.toInCall.ns, fun i y v h1 h2 h3 => ?_⟩, fun y c h => ?_, e0.hok.fresh (Nat.le_refl _), fun y c h => ?_, fun p hp => absurd (show p ∈ ([] : List (Addr × Obj)) from hp) (by simp), e0.hok.kept hk, ?_⟩
  · rcases lookS h1 with h1 | ⟨_, h1, h1c⟩ <;> rcases lookS h2 with h2 | ⟨_, h2, h2c⟩
    · exact name_of_addr x.apart (PySem.mem_of_lookup h1) (PySem.mem_of_lookup h2)
    · have := abv h1; rw [h2c] at this; exact absurd (Nat.lt_trans ccl this) (Nat.lt_irrefl _)
    · have := abv h2; rw [h1c] at this; exact absurd (Nat.lt_trans ccl this) (Nat.lt_irrefl _)
    · rw [h1, h2]
  · have hy : scope.names.lookup y = some .cell ∨ scope.names.lookup y = some .free := hy
    show ∃ c, (cellsFrom (s.heap.objs.size + 1) scope.names [] ++ [(cw, cc)]).lookup y = some c
    rcases hy with hy | hy
    · obtain ⟨c, hc⟩ := cell_has (n := s.heap.objs.size + 1) hy
      exact ⟨c, look_app hc⟩
    · have e : y = cw := S.free _ (PySem.mem_of_lookup hy) rfl
      subst e
      exact ⟨cc, by rw [List.lookup_append, own_cls S]; rfl⟩
  · have hf : (scope.names.lookup y == some .cell) = true := hf
    rcases lookS h with h | ⟨_, h, _⟩
    · exact Nat.le_of_lt (abv h)
    · have := S.cls _ (PySem.mem_of_lookup (beq_iff_eq.mp hf)) h
      cases this
  · have hi : i < vs.length := by
      unfold L2.start at h2
      by_cases hi : i < vs.length
      · exact hi
      · rw [List.getElem?_append_right (by simpa using hi)] at h2
        rw [List.getElem?_replicate] at h2
        split at h2 <;> cases h2
    have ha : vs[i]? = some v := by
      unfold L2.start at h2
      rw [List.getElem?_append_left (by simpa using hi), List.getElem?_map] at h2
      cases e : vs[i]? with
      | none => rw [e] at h2; cases h2
      | some a => rw [e] at h2; cases h2; rfl
    obtain ⟨u, hu, rv⟩ := r.get ha
    have hp : ps[i]? = some y := by
      rw [← S.pre, List.getElem?_take_of_lt (by omega)]; exact h1
    have ndP : ps.Nodup := by rw [← S.pre]; exact S.nd.sublist (List.take_sublist _ _)
    refine ⟨u, rv, ?_⟩
    rcases S.par y (List.mem_of_getElem? hp) with k | k
    · exact .inl ⟨k, bindL_get ndP hp hu k⟩
    · obtain ⟨c, e⟩ := cell_has (n := s.heap.objs.size + 1) k
      refine .inr ⟨.inl k, c, look_app e, ?_⟩
      have q := x.cell y c e
      rw [bindC_get ndP hp hu (by show scope.names.lookup y ≠ _; rw [k]; decide)] at q
      exact q
  · rcases lookS h with h | ⟨_, _, h⟩
    · exact ⟨_, x.cell y c h⟩
    · rw [h]; exact ⟨_, _, hk _ _ ccs, rfl⟩
  · rcases lookS h with h | ⟨_, _, h⟩
    · exact e0.hok.fresh (Nat.le_of_lt (abv h))
    · rw [h]; exact (e0.bs _ _ ccb).2
  · unfold L2.start
    show _ = N.length
    rw [List.length_append, List.length_map, List.length_replicate]
    omega
end
/-- statements within the code c of a body -/
structure PAt (X : Cx) (body ss : List Stmt) (t : TS) : Prop where
  run : ∀ (pins : List (Addr × Obj)) (s : Shared) (σ : L2.St) (H : Hp) (D : Ends), Inv X pins σ H s → t D σ H → PySem.wpAt (model X.prog X.w) X.A (.func body X.env) (execs ss X.env) (fun f s' => SP X pins D f s') X.xe s
structure PAt1 (X : Cx) (body : List Stmt) (st : Stmt) (t : TS) : Prop where
  run : ∀ (pins : List (Addr × Obj)) (s : Shared) (σ : L2.St) (H : Hp) (D : Ends), Inv X pins σ H s → t D σ H → PySem.wpAt (model X.prog X.w) X.A (.func body X.env) (exec st X.env) (fun f s' => SP X pins D f s') X.xe s
section
variable {X : Cx} {body ss : List Stmt} {st : Stmt} {t u : TS}
theorem pat_of (h : PSs X ss t) : PAt X body ss t := ⟨fun pins s σ H D I hw => PySem.wpAt_of_wpAny (h.run pins s σ H D I hw)⟩
theorem pat1_of (h : PS X st t) : PAt1 X body st t := ⟨fun pins s σ H D I hw => PySem.wpAt_of_wpAny (h.run pins s σ H D I hw)⟩
theorem pat_cons (h1 : PAt1 X body st t) (h2 : PAt X body ss u) : PAt X body (st :: ss) (tSeq t u) := by
  refine ⟨fun pins s σ H D I hw => ks_wpAt_execs_cons (PySem.wpAt_mono (h1.run pins s σ H _ I hw) (fun f s' q => ?_) fun _ _ e => e)⟩
  cases f with
  | next => obtain ⟨σ', H', I', q'⟩ := q; exact h2.run pins s' σ' H' D I' q'
  | ret v => exact q
  | brk => exact q
  | cont => exact q
end
theorem fn_ofS {CX : CXT} {P : Program} {w : World} {K : PySem.W.Frag} {mg : Str → Option Value} {base : Heap} {k : Nat} {f cc : Addr} {D : Value} {name qual : Str} {params : Arguments} {body : List Stmt} {scope : Scope} {dV kV doc pm cdv ct oc : Value} {an od : Option Addr}
    {osl : Array (Option Value)} {N ps : List Str} {sp : Sp} (lk : K.lookup f = some ⟨oc, od, .func (PySem.W.fnX name qual params body scope [(cw, cc)] dV kV doc pm an cdv ct), osl⟩) (hcd : PySem.W.codeIn K cdv qual = true) (S : SScope N ps scope)
    (hcc : ∃ oc dx sl, K.lookup cc = some ⟨oc, dx, .cell (some D), sl⟩)
    (len : ∀ vs H Q E, sp vs H Q E → vs.length = ps.length)
    (hbody : ∀ (A : Around) (outer : List Env) (s : Shared) (H : Hp) (vs : List V) (Q : VK) (E : XK), Room k (A.deeper (envS qual scope s.heap.objs.size f cdv cc)) → sp vs H Q E →
      ∃ t, PAt (cxS CX P w K mg base N qual scope f cdv cc A outer s H E) body body t ∧ t { nx := fun _ H' => Q .non H', rt := Q } (L2.start N vs) H) :
    FnOk P w K mg base CX (k + 1) f (PySem.W.fnX name qual params body scope [(cw, cc)] dV kV doc pm an cdv ct) ps sp := by
  refine ⟨len, fun A outer s H args us vs Q E hr e0 hb r hsp => ?_⟩
  have hl := len _ _ _ _ hsp
  have KX : K.In s.heap := e0.mod.kin.keeps fun b o e => (e0.bs b o e).1
  have lim : s.heap.NoLimit := e0.mod.nolimit.keeps fun b o e => (e0.bs b o e).1
  have hkind : ∀ y ∈ ps.zip us, scope.names.lookup y.1 = some .local ∨ (scope.names.lookup y.1 = some .cell ∧ ((cellsFrom (s.heap.objs.size + 1) scope.names []).lookup y.1).isSome = true) := fun ⟨n, v⟩ hy => by
    rcases S.par n (List.of_mem_zip hy).1 with q | q
    · exact .inl q
    · exact .inr ⟨q, PySem.W.cellsFrom_some _ _ _ (.inl q)⟩
  refine codeAny_call_function hr.depth (KX _ _ lk) rfl S.co S.gen rfl (PySem.W.codeRec_of KX hcd) (hb _ _ _ _ ?_)
  refine newEnvS S.kind hkind fun env he s1 x => ?_
  subst he
  refine ⟨lim.keeps x.toInCall.keep, ks_codeAny_funcAt ?_⟩
  obtain ⟨t, ht, hq⟩ := hbody A outer s H vs Q E (hr.deeper _) hsp
  have I : Inv (cxS CX P w K mg base N qual scope f cdv cc A outer s H E) [] (L2.start N vs) H s1 := inv_startS S hr.hd e0 hl r hcc x
  refine PySem.wpAt_mono (ht.run [] s1 (L2.start N vs) H _ I hq) (fun fl s' hs => ?_) fun e s' hs => hs
  have fin : ∀ {σ' : L2.St} {H' : Hp} {v : V} {u : Value}, Inv (cxS CX P w K mg base N qual scope f cdv cc A outer s H E) [] σ' H' s' → RelV v u → Q v H' → CE outer P w H s Q u s' :=
    fun {σ' H' v u} J rv q => ⟨v, H', J.os, J.bare, J.base, J.hok, rv, q⟩
  cases fl with
  | ret u =>
    obtain ⟨v, σ', H', J, rv, q⟩ := hs
    exact fin J rv q
  | next =>
    obtain ⟨σ', H', J, q⟩ := hs
    exact fin (v := V.non) (u := Value.none) J rfl q
  | brk =>
    obtain ⟨_, _, _, q⟩ := hs
    exact False.elim q
  | cont =>
    obtain ⟨_, _, _, q⟩ := hs
    exact False.elim q
end MR
set_option maxHeartbeats 4000000
/-! Mirror 15: super().m(e, ..) as a statement of a method, m a def of a class above. -/
namespace MR
open PySem PySem.Spec PyProof.Rows L2

/-- what of the text such a statement needs, whatever the instance: f the function that runs, cda its code, D the class that is captured -/
structure SupF (P : Program) (K : PySem.W.Frag) (mg : Str → Option Value) (f cc cda D : Addr) (sf : Str) : Prop where
  fn : ∃ oc od fd osl ar, K.lookup f = some ⟨oc, od, .func fd, osl⟩ ∧ (fd.params.posonlyargs ++ fd.params.args).head? = some ar ∧ ar.arg = sf
  code : ∃ ccl cdd vs ccs file tf, K.lookup cda = some ⟨ccl, cdd, .fields vs, ccs⟩ ∧ vs[2]? = some (.str file tf) ∧ ((P.main.file : Str) == file) = true
  cell : ∃ cl cld csl, K.lookup cc = some ⟨cl, cld, .cell (some (.ref D)), csl⟩
  cls : ∃ cdD, PySem.W.clsIn K D = some cdD
  name : mg "super" = none
  top : (P.main.scope.names.lookup ("super" : Str)).isSome = false
/-- of the instance's class C: the def g behind D -/
structure SupC (K : PySem.W.Frag) (C D : Addr) (m : Str) (g : Addr) : Prop where
  sub : PySem.W.mroIn K C (.ref D) = some true
  opq : PySem.W.nsIn K PySem.cStatics "thirdparty.any" = some none
  at_ : PySem.W.ks_superIn K C D m = some (some (.ref g))
  ty : PySem.W.typeIn K (.ref g) = some (.type "function")
  fn : PySem.W.fnIn K g = true
theorem boot_super : bootBuiltins "super" = some (.type "super") := by decide +kernel
section
variable {CX : CXT} {P : Program} {w : World} {K : PySem.W.Frag} {mg : Str → Option Value} {base : Heap} {N ps : List Str} {qual : Str} {scope : Scope} {f cc cda D : Addr} {A : Around} {outer : List Env} {s0 : Shared} {H0 : Hp} {E0' : XK}
/-- super, made -/
theorem super_ok {sf : Str} {pins : List (Addr × Obj)} {σ : L2.St} {H : Hp} {s : Shared} {a C : Addr} {ox : Obj} {odx : Option Obj} {body : List Stmt} {p0 p1 : Pos} {attr : Str} {whole : Sem Value} {Q : Value → Shared → Prop} {E : Value → Shared → Prop} {i : Nat} (F : SupF P K mg f cc cda D sf)
    (I : Inv (cxS CX P w K mg base N qual scope f (.ref cda) cc A outer s0 H0 E0') pins σ H s) (hσ : σ[i]? = some (some (.ref a))) (hN : N[i]? = some sf) (hk : scope.kind = .function) (hks : scope.names.lookup ("super" : Str) = some .globalImplicit) (hkc : scope.names.lookup cw = some .free) (hka : scope.names.lookup sf = some .local)
    (hoc : (cellsFrom (s0.heap.objs.size + 1) scope.names []).lookup cw = none) (J : PySem.W.InstAt s.heap a ox C odx) (hsub : PySem.W.mroIn K C (.ref D) = some true) (hat : (attr == ("__class__" : Str)) = false)
    (h : ∀ so h', (∀ b o, s.heap.get? b = some o → h'.get? b = some o) → so = s.heap.objs.size → h'.get? so = some (PySem.W.ks_superObj D a C) → Q (.ref so) { s with heap := h' }) :
    PySem.wpAt (model P w) (cxS CX P w K mg base N qual scope f (.ref cda) cc A outer s0 H0 E0').A (.func body (cxS CX P w K mg base N qual scope f (.ref cda) cc A outer s0 H0 E0').env) (attributeBase (.Call (.Name "super" p0) [] [] p1) attr (cxS CX P w K mg base N qual scope f (.ref cda) cc A outer s0 H0 E0').env whole) Q E s := by
  obtain ⟨oc, od, fd, osl, ar, lf, hp, rfl⟩ := F.fn
  obtain ⟨ccl, cdd, cvs, ccs, file, tf, lc, hvs, hfile⟩ := F.code
  obtain ⟨cl, cld, csl, lcc⟩ := F.cell
  obtain ⟨cdD, hD⟩ := F.cls
  have X : K.In s.heap := I.kIn
  obtain ⟨m, hn, hl⟩ := I.loc
  obtain ⟨u, ru, hlook⟩ := hl i _ (.ref a) hN hσ (.inl hka)
  cases ru
  have hm : m ar.arg = some (.ref a) := by
    rcases hlook with ⟨_, h⟩ | ⟨h, _⟩
    · exact h
    · rcases h with h | h
      · have h : scope.names.lookup ar.arg = some .cell := h
        rw [hka] at h; cases h
      · have h : scope.names.lookup ar.arg = some .free := h
        rw [hka] at h; cases h
  obtain ⟨mb, b1, b2⟩ := I.ok.mod.blt
  obtain ⟨oD, hD1, hD2⟩ : ∃ oD, s.heap.get? D = some oD ∧ oD.data = .cls cdD := by
    unfold PySem.W.clsIn at hD
    split at hD
    · rename_i c d cd' sl ho
      cases hD
      exact ⟨_, X _ _ ho, rfl⟩
    · cases hD
  refine PySem.ks_wpAt_super_base (env := (cxS CX P w K mg base N qual scope f (.ref cda) cc A outer s0 H0 E0').env) hks hkc hat rfl (X _ _ lf) rfl hp rfl (X _ _ lc) rfl hvs hfile F.top ?_
  refine PySem.W.ks_loadName_global hk hks (Calls.loadGlobal_builtin (by rw [I.ok.glob]; exact I.ok.mod.glob.keeps I.bk) F.name (by rw [I.ok.blt]; exact b1.keeps I.bk) ((b2 _ (by decide)).trans boot_super) ⟨rfl, ?_⟩)
  refine wpAny_loadName_free hk hkc (c := cc) (by show (cellsFrom (s0.heap.objs.size + 1) scope.names [] ++ [(cw, cc)]).lookup cw = _; rw [List.lookup_append, hoc]; rfl) ⟨_, X _ _ lcc, rfl⟩ ?_
  refine wpAny_loadName_local hk hka hn hm ?_
  obtain ⟨hh, g, d, t, os⟩ := s
  refine PySem.ks_wpAny_isType_cls hD1 hD2 ⟨rfl, ?_⟩
  refine PySem.ks_wpAny_call_super hD1 hD2 J.at_ J.cls (fun c e => ?_) (PySem.W.looks_mroIn X hsub) (fun h' e k => ?_)
  · have := J.no
    unfold PySem.W.notCls at this
    rw [e] at this
    exact Bool.noConfusion this
  · exact h _ _ k rfl e
/-- .. its method -/
theorem super_meth {name : Str} {pl : Sem Bool} {X : Cx} {pins : List (Addr × Obj)} {σ : L2.St} {H : Hp} {s : Shared} {a C dx so g : Addr} {vs : List (Option V)} {Q : Value × List Value → Shared → Prop} {E : Value → Shared → Prop} {A : Around} (I : Inv X pins σ H s) (hs : SlX.Slt H a C dx vs) (k : SupC X.K C D name g)
    (hso : s.heap.get? so = some (PySem.W.ks_superObj D a C)) (hn : (name == ("__class__" : Str)) = false) (h : Q (.ref s.heap.objs.size, []) { s with heap := s.heap.push (PySem.W.methodObj (.ref g) (.ref a)), toks := s.toks + 1 }) :
    wpAny (model X.prog X.w) A (getMethod (.ref so) name pl) Q E s := by
  have XK : X.K.In s.heap := I.kIn
  obtain ⟨sl, od', _, J, _⟩ := SlX.slt_inst I hs
  obtain ⟨hh, gg, d, t, os⟩ := s
  have hm := k.at_
  cases hc : PySem.W.clsIn X.K C with
  | none => unfold PySem.W.ks_superIn at hm; rw [hc] at hm; cases hm
  | some cd =>
    unfold PySem.W.ks_superIn at hm
    rw [hc] at hm
    obtain ⟨of, hof, hofc⟩ : ∃ of, hh.get? g = some of ∧ of.cls = .type "function" := by
      have ht' : (X.K.lookup g).map (·.cls) = some (.type "function") := k.ty
      cases z : X.K.lookup g with
      | none => rw [z] at ht'; cases ht'
      | some of => rw [z] at ht'; exact ⟨of, XK _ _ z, Option.some.inj ht'⟩
    refine PySem.ks_wpAny_getMethod_super hso (PySem.W.looks_opaque XK k.opq) (l₀ := cd.mro) ?_ rfl XK hm hof hofc (PySem.W.ks_ne XK J hc) hn h
    exact fun A Q E s k q => wpAny_bind ((PySem.W.looks_clsIn XK hc) A _ E s k (wpAny_pure q))
/-- super().m(e, ..) -/
def tSup (cs : Addr → Prop) (i : Nat) (sp : Sp) (E : XK) (t : TA) : TS := fun D σ H => ∃ a C dx vs, cs C ∧ σ[i]? = some (some (.ref a)) ∧ SlX.Slt H a C dx vs ∧ t σ H fun ws H2 => sp (.ref a :: ws) H2 (fun _ H3 => D.nx σ H3) E
theorem pat_sup {sf name : Str} {cs : Addr → Prop} {k i : Nat} {sp : Sp} {E : XK} {e : Expr} {es : List Expr} {t : TA} {body : List Stmt} {p0 p1 apos pos pos' : Pos} {pl : Sem Bool} (F : SupF P K mg f cc cda D sf) (hcs : ∀ C, cs C → ∃ g, SupC K C D name g ∧ FnR P w K mg base CX k g sp)
    (hr : Room k (cxS CX P w K mg base N qual scope f (.ref cda) cc A outer s0 H0 E0').A) (hx : Passes CX (cxS CX P w K mg base N qual scope f (.ref cda) cc A outer s0 H0 E0') E) (ha : PA (cxS CX P w K mg base N qual scope f (.ref cda) cc A outer s0 H0 E0') (e :: es) t) (hN : N[i]? = some sf) (hk : scope.kind = .function) (hks : scope.names.lookup ("super" : Str) = some .globalImplicit) (hkc : scope.names.lookup cw = some .free) (hka : scope.names.lookup sf = some .local)
    (hoc : (cellsFrom (s0.heap.objs.size + 1) scope.names []).lookup cw = none) (hn : (name == ("__class__" : Str)) = false)
    (he : starEach (e :: es) (cxS CX P w K mg base N qual scope f (.ref cda) cc A outer s0 H0 E0').env = (false, eval e (cxS CX P w K mg base N qual scope f (.ref cda) cc A outer s0 H0 E0').env) :: starEach es (cxS CX P w K mg base N qual scope f (.ref cda) cc A outer s0 H0 E0').env) (hpl : (backTo pos (starEach es (cxS CX P w K mg base N qual scope f (.ref cda) cc A outer s0 H0 E0').env)).any (·.1) = false)
    (hi : interactive (cxS CX P w K mg base N qual scope f (.ref cda) cc A outer s0 H0 E0').env = false) (hsw : swapsWith (.Call (.Attribute (.Call (.Name "super" p0) [] [] p1) name apos) (e :: es) [] pos) none pos'.line (cxS CX P w K mg base N qual scope f (.ref cda) cc A outer s0 H0 E0').env = pure false)
    (hev : eval (.Call (.Attribute (.Call (.Name "super" p0) [] [] p1) name apos) (e :: es) [] pos) (cxS CX P w K mg base N qual scope f (.ref cda) cc A outer s0 H0 E0').env = (do
      let ov ← attributeBase (.Call (.Name "super" p0) [] [] p1) name (cxS CX P w K mg base N qual scope f (.ref cda) cc A outer s0 H0 E0').env (eval (.Call (.Name "super" p0) [] [] p1) (cxS CX P w K mg base N qual scope f (.ref cda) cc A outer s0 H0 E0').env)
      standAt apos.atName
      let (fm, first) ← holding [ov] (getMethod ov name pl)
      callWith pos fm first (backTo pos (starEach (e :: es) (cxS CX P w K mg base N qual scope f (.ref cda) cc A outer s0 H0 E0').env)) [])) :
    PAt1 (cxS CX P w K mg base N qual scope f (.ref cda) cc A outer s0 H0 E0') body (.Expr (.Call (.Attribute (.Call (.Name "super" p0) [] [] p1) name apos) (e :: es) [] pos) pos') (tSup cs i sp E t) := by
  refine ⟨fun pins s σ H Dd I hw => ?_⟩
  obtain ⟨a, C, dx, vs, hC, hσ, hs, hw⟩ := hw
  obtain ⟨g, kc, Fg⟩ := hcs C hC
  refine PySem.ks_wpAt_Expr_any ?_ hi hsw
  refine PySem.ks_wpAt_MethodCall (pl := pl) ?_ hev
  obtain ⟨sl0, od0, _, J, _⟩ := SlX.slt_inst I hs
  refine super_ok F I hσ hN hk hks hkc hka hoc J kc.sub hn fun so h' kp eso ho => ?_
  have I2 : Inv (cxS CX P w K mg base N qual scope f (.ref cda) cc A outer s0 H0 E0') pins σ H { s with heap := h' } := I.kept (t' := s.toks) kp
  refine super_meth (X := (cxS CX P w K mg base N qual scope f (.ref cda) cc A outer s0 H0 E0')) (D := D) I2 hs kc ho hn ?_
  have I3 := ClX.met_new (C := a) (g := g) I2
  have hb : base.get? h'.objs.size = none := by
    cases e : base.get? h'.objs.size with
    | none => rfl
    | some o => exact absurd (Heap.lt_size (I2.bk _ _ e)) (Nat.lt_irrefl _)
  refine ClX.callwith_cm (X := (cxS CX P w K mg base N qual scope f (.ref cda) cc A outer s0 H0 E0')) (C := a) (g := g) I3 hb kc.fn (thn (ha.run pos _ _ σ H _ I3 hw) fun us s2 ⟨ws, H2, I4, r, q2⟩ => ?_) he hpl
  refine ⟨⟨ClX.pin_at I4, I4.kIn⟩, ?_⟩
  exact thn (ClX.run_cm (X := (cxS CX P w K mg base N qual scope f (.ref cda) cc A outer s0 H0 E0')) (C := a) Fg hr hx I4 r q2) fun v s3 ⟨x, H3, I5, rx, q⟩ => ⟨σ, H3, I5, q⟩
end
end MR
set_option maxHeartbeats 4000000
/-! Mirror 16: the mirrors of methods that say super().m(..); their parameters with defaults by name. -/
namespace MR
open PySem PySem.Spec PyProof.Rows L2

def TrAt (C : Cst) (E : XK) (X : Cx) (body ss : List Stmt) (f : LS → LH → Out LF) : Prop := ∃ t, PAt X body ss t ∧ ImS C E t f
def TrAt1 (C : Cst) (E : XK) (X : Cx) (body : List Stmt) (st : Stmt) (f : LS → LH → Out LF) : Prop := ∃ t, PAt1 X body st t ∧ ImS C E t f
section
variable {C : Cst} {E : XK} {X : Cx} {body ss : List Stmt} {st : Stmt} {f g : LS → LH → Out LF}
theorem at_of (h : TrSs C E X ss f) : TrAt C E X body ss f := let ⟨_, p, i⟩ := h; ⟨_, pat_of p, i⟩
theorem at1_of (h : TrS C E X st f) : TrAt1 C E X body st f := let ⟨_, p, i⟩ := h; ⟨_, pat1_of p, i⟩
theorem at_cons (h1 : TrAt1 C E X body st f) (h2 : TrAt C E X body ss g) : TrAt C E X body (st :: ss) (sCons f g) := by
  obtain ⟨t, p, i⟩ := h1
  obtain ⟨u, q, j⟩ := h2
  exact ⟨_, pat_cons p q, fun ρ h H l σ D R S o => i ρ h H l σ _ R S (EndsOk.seq j o)⟩
end
def sSup (i : Nat) (cs : List Nat) (n : Nat) (m : Fn) (fs : LS → LH → Out (List LV)) : LS → LH → Out LF := fun l h => match nth l i with
  | some x => match insL x h with
    | some (c, _) => match hasC c cs with
      | true => (fs l h).bind fun xs h2 => match Nat.beq (xs.length + 1) n with
        | true => (m (x :: xs) h2).bind fun _ h3 => .ok (.nx l) h3
        | false => .no
      | false => .no
    | none => .no
  | none => .no
section
variable {C : Cst} {P : Program} {w : World} {K : PySem.W.Frag} {mg : Str → Option Value} {base : Heap} {N ps : List Str} {qual : Str} {scope : Scope} {f cc cda D : Addr} {A : Around} {outer : List Env} {s0 : Shared} {H0 : Hp} {E : XK}
theorem im_sup {E : XK} {cs : List Nat} {i n : Nat} {m : Fn} {t : TA} {fs : LS → LH → Out (List LV)} (j : ImA C E t fs) : ImS C E (tSup (fun A => ∃ c, c ∈ cs ∧ A = C.cls c) i (spM C n m) E t) (sSup i cs n m fs) := fun ρ h H l σ Dd R S o => by
  unfold sSup at o
  cases e0 : nth l i with
  | none => rw [e0] at o; exact o.elim
  | some x =>
    rw [e0] at o
    dsimp only at o
    obtain ⟨u, hu, z⟩ := S.2 i _ (nth_eq e0)
    cases e : insL x h with
    | none => rw [e] at o; exact o.elim
    | some q =>
      obtain ⟨c, sl⟩ := q
      rw [e] at o
      dsimp only at o
      cases e2 : hasC c cs with
      | false => rw [e2] at o; exact o.elim
      | true =>
        rw [e2] at o
        obtain ⟨a, dx, vs, _, _, rfl, _, sl', _⟩ := insL_ok R z e
        refine ⟨a, _, dx, vs, ⟨c, hasC_ok e2, rfl⟩, hu, sl', j ρ h H l σ _ R S (EndsOk.bind o fun xs h2 ρ2 H2 us p2 R2 zs o2 => ?_)⟩
        cases e3 : Nat.beq (xs.length + 1) n with
        | false => rw [e3] at o2; exact o2.elim
        | true =>
          rw [e3] at o2
          refine ⟨by rw [List.length_cons, ← zs.length]; exact Nat.eq_of_beq_eq_true e3, ρ2, h2, x :: xs, R2, .cons (z.mono p2) zs, ?_⟩
          exact EndsOk.bind (R := RV) o2 fun v h3 ρ3 H3 u3 p3 R3 z3 o3 => o3 ρ3 H3 (pre.refl _) R3 σ ((S.mono p2).mono p3)
/-- the def behind, in the classes that say super -/
structure SupT (P : Program) (w : World) (K : PySem.W.Frag) (mg : Str → Option Value) (base : Heap) (C : Cst) (D : Addr) (name : Str) (cs : List Nat) (k n : Nat) (m : Fn) : Prop where
  ex : ∀ c, c ∈ cs → ∃ g, SupC K (C.cls c) D name g ∧ FnR P w K mg base (L2.CX P w) k g (spM C n m)
theorem at_sup {E0' : XK} {sf name : Str} {cs : List Nat} {k i n : Nat} {m : Fn} {e : Expr} {es : List Expr} {fs : LS → LH → Out (List LV)} {body : List Stmt} {p0 p1 apos pos pos' : Pos} {pl : Sem Bool} (F : SupF P K mg f cc cda D sf) (M : SupT P w K mg base C D name cs k n m)
    (S : SScope N ps scope) (hr : Room k (A.deeper (envS qual scope s0.heap.objs.size f (.ref cda) cc))) (ha : TrA C E (cxS (L2.CX P w) P w K mg base N qual scope f (.ref cda) cc A outer s0 H0 E0') (e :: es) fs)
    (hx : Passes (L2.CX P w) (cxS (L2.CX P w) P w K mg base N qual scope f (.ref cda) cc A outer s0 H0 E0') E)
    (hN : N[i]? = some sf := by rfl) (hks : scope.names.lookup ("super" : Str) = some .globalImplicit := by rfl) (hkc : scope.names.lookup cw = some .free := by rfl) (hka : scope.names.lookup sf = some .local := by rfl) (hn : (name == ("__class__" : Str)) = false := by decide)
    (he : starEach (e :: es) (envS qual scope s0.heap.objs.size f (.ref cda) cc) = (false, eval e (envS qual scope s0.heap.objs.size f (.ref cda) cc)) :: starEach es (envS qual scope s0.heap.objs.size f (.ref cda) cc) := by rfl)
    (hpl : (backTo pos (starEach es (envS qual scope s0.heap.objs.size f (.ref cda) cc))).any (·.1) = false := by rfl)
    (hi : interactive (envS qual scope s0.heap.objs.size f (.ref cda) cc) = false := by rfl) (hsw : swapsWith (.Call (.Attribute (.Call (.Name "super" p0) [] [] p1) name apos) (e :: es) [] pos) none pos'.line (envS qual scope s0.heap.objs.size f (.ref cda) cc) = pure false := by rfl)
    (hev : eval (.Call (.Attribute (.Call (.Name "super" p0) [] [] p1) name apos) (e :: es) [] pos) (envS qual scope s0.heap.objs.size f (.ref cda) cc) = (do
      let ov ← attributeBase (.Call (.Name "super" p0) [] [] p1) name (envS qual scope s0.heap.objs.size f (.ref cda) cc) (eval (.Call (.Name "super" p0) [] [] p1) (envS qual scope s0.heap.objs.size f (.ref cda) cc))
      standAt apos.atName
      let (fm, first) ← holding [ov] (getMethod ov name pl)
      callWith pos fm first (backTo pos (starEach (e :: es) (envS qual scope s0.heap.objs.size f (.ref cda) cc))) []) := by rfl) :
    TrAt1 C E (cxS (L2.CX P w) P w K mg base N qual scope f (.ref cda) cc A outer s0 H0 E0') body (.Expr (.Call (.Attribute (.Call (.Name "super" p0) [] [] p1) name apos) (e :: es) [] pos) pos') (sSup i cs n m fs) := by
  obtain ⟨t, q, j⟩ := ha
  refine ⟨_, pat_sup F (cs := fun A => ∃ c, c ∈ cs ∧ A = C.cls c) (k := k) (sp := spM C n m) (pl := pl) (fun A hA => ?_) hr hx q hN S.kind hks hkc hka (own_cls S) hn he hpl hi hsw hev, im_sup j⟩
  obtain ⟨c, hc, rfl⟩ := hA
  exact M.ex c hc
end
/-! ### such a def of the text -/
structure FunS (K : PySem.W.Frag) (x qual : Str) (st : Stmt) (kws : List (Str × V)) (f cc cda D : Addr) (fd : FuncData) : Prop where
  ex : ∃ (oc : Value) (od : Option Addr) (kV doc pm : Value) (an : Option Addr) (ct : Value) (osl : Array (Option Value)),
    fd = PySem.W.fnX x qual (defArgs st) (defBody st) (defScope st) [(cw, cc)] .none kV doc pm an (.ref cda) ct ∧ K.lookup f = some ⟨oc, od, .func fd, osl⟩ ∧ PySem.W.codeIn K (.ref cda) qual = true ∧ L2.KwdV K kV kws
  cell : ∃ oc dx sl, K.lookup cc = some ⟨oc, dx, .cell (some (.ref D)), sl⟩
section
variable {P : Program} {w : World} {K : PySem.W.Frag} {mg : Str → Option Value} {base : Heap} {C : Cst} {x qual : Str} {st : Stmt} {f cc cda D : Addr} {fd : FuncData} {N ps : List Str} {k : Nat} {F : LS → LH → Out LF} {kws : List (Str × V)}
theorem fn_okS (Fd : FunS K x qual st kws f cc cda D fd) (S : SScope N ps (defScope st))
    (hb : ∀ (A : Around) (outer : List Env) (s : Shared) (H : Hp) (E : XK), Room k (A.deeper (envS qual (defScope st) s.heap.objs.size f (.ref cda) cc)) → TrAt C E (cxS (L2.CX P w) P w K mg base N qual (defScope st) f (.ref cda) cc A outer s H E) (defBody st) (defBody st) F) :
    FnOk P w K mg base (L2.CX P w) (k + 1) f fd ps (spM C ps.length (mFn N.length F)) := by
  obtain ⟨oc, od, kV, doc, pm, an, ct, osl, rfl, lk, hcd, _⟩ := Fd.ex
  refine fn_ofS lk hcd S Fd.cell (fun vs H Q E h => h.1) fun A outer s H vs Q E hr h => ?_
  obtain ⟨t, p, i⟩ := hb A outer s H E hr
  refine ⟨t, p, ?_⟩
  obtain ⟨hl, ρ, h, ls, R, z, o⟩ := h
  refine i ρ h H _ _ _ R (start_rel z) ?_
  unfold mFn at o
  cases e : F (startL N.length ls) h with
  | no => rw [e] at o; exact o
  | ex c d h1 => rw [e] at o; exact o
  | ok fl h1 =>
    rw [e] at o
    cases fl with
    | nx l1 => exact fun ρ1 H1 p1 R1 σ1 S1 => o ρ1 H1 .non p1 R1 .non
    | rt v => exact fun ρ1 H1 p1 R1 u z1 => o ρ1 H1 u p1 R1 z1
    | bk l1 => exact o.elim
    | ct l1 => exact o.elim
theorem FunS.binds0 (Fd : FunS K x qual st kws f cc cda D fd) (n : Nat) (hk : kws ≠ []) (hn : n + kws.length = ps.length)
    (h : ∀ (Dk : Addr) (doc pm : Value) (an : Option Addr) (ct : Value) (us ks : List Value), us.length = n → ks.length = kws.length →
      L2.KwChain Dk ((kws.map (·.1)).zip ks) (bindArgs (PySem.W.fnX x qual (defArgs st) (defBody st) (defScope st) [(cw, cc)] .none (.ref Dk) doc pm an (.ref cda) ct) ⟨us, []⟩) (ps.zip (us ++ ks))) : ∃ ds, Vals (kws.map (·.2)) ds ∧ Binds K fd ps ds := by
  obtain ⟨oc, od, kV, doc, pm, an, ct, osl, rfl, lk, hcd, hK⟩ := Fd.ex
  rcases hK with e | ⟨Dk, rfl, hq⟩
  · exact absurd e hk
  · obtain ⟨ks, hl, rk, hks⟩ := L2.kwd_vals hq
    refine ⟨ks, rk, fun s us X hlen => ?_⟩
    have l2 : us.length = n := by
      rw [List.length_append, hl] at hlen
      omega
    exact L2.BindsTo.of_looks fun M => L2.KwChain.looks X hks (h Dk doc pm an ct us ks l2 hl)
/-- all keywords are written -/
theorem FunS.kbinds (Fd : FunS K x qual st kws f cc cda D fd) (n : Nat) (ks : List Str)
    (h : ∀ (kV doc pm : Value) (an : Option Addr) (ct : Value) (us ws : List Value), us.length = n → ws.length = ks.length →
      bindArgs (PySem.W.fnX x qual (defArgs st) (defBody st) (defScope st) [(cw, cc)] .none kV doc pm an (.ref cda) ct) ⟨us, ks.zip ws⟩ = pure (ps.zip (us ++ ws))) :
    L2.KBn K fd ps n ks (fun us ws => us ++ ws) (fun vs zs => vs ++ zs) := by
  obtain ⟨oc, od, kV, doc, pm, an, ct, osl, rfl, lk, hcd, hK⟩ := Fd.ex
  exact ⟨fun s us ws X l1 l2 => .of_eq (h kV doc pm an ct us ws l1 l2), fun r1 r2 => r1.append r2⟩
end
end MR
set_option maxHeartbeats 4000000
/-! Mirror 17: own exceptions: the ones without an __init__, the ones whose __init__ says super().__init__('..') and stores one field. -/
namespace MR
open PySem PySem.Spec PyProof.Rows L2

/-- the class C of the exception, behind D: ValueError's own __init__ -/
structure SupE (K : PySem.W.Frag) (C D : Addr) : Prop where
  sub : PySem.W.mroIn K C (.ref D) = some true
  opq : PySem.W.nsIn K PySem.cStatics "thirdparty.any" = some none
  at_ : PySem.W.ks_superIn K C D "__init__" = some (some (.builtin "ValueError.__init__"))
  ve : PySem.W.subIn K (.ref C) (.type "ValueError") = some true
section
variable {X : Cx} {pins : List (Addr × Obj)} {σ : L2.St} {H : Hp} {s : Shared} {a C D so : Addr} {A : Around} {E : Value → Shared → Prop}
theorem exo_inst {d : Option Addr} (I : Inv X pins σ H s) (e : H a = some (exo a C none)) : ∃ ox, s.heap.get? a = some ox ∧ PySem.W.InstAt s.heap a ox C none := by
  obtain ⟨t1, ho⟩ := exo_at I.hok e
  exact ⟨_, ho, ho, rfl, rfl, trivial⟩
theorem superE_meth {pl : Sem Bool} {Q : Value × List Value → Shared → Prop} (I : Inv X pins σ H s) (e : H a = some (exo a C none)) (k : SupE X.K C D)
    (hso : s.heap.get? so = some (PySem.W.ks_superObj D a C)) (h : Q (.ref s.heap.objs.size, []) { s with heap := s.heap.push (PySem.W.kxs_mw "ValueError.__init__" a), toks := s.toks + 1 }) :
    wpAny (model X.prog X.w) A (getMethod (.ref so) "__init__" pl) Q E s := by
  have XK : X.K.In s.heap := I.kIn
  obtain ⟨ox, _, J⟩ := exo_inst (d := none) I e
  obtain ⟨hh, gg, d, t, os⟩ := s
  have hI : PySem.W.Looks (model X.prog X.w) hh (isInstance (.ref a) (.type "ValueError")) true := J.type.andThen (PySem.W.looks_subIn XK k.ve)
  have hm := k.at_
  cases hc : PySem.W.clsIn X.K C with
  | none => unfold PySem.W.ks_superIn at hm; rw [hc] at hm; cases hm
  | some cd =>
    unfold PySem.W.ks_superIn at hm
    rw [hc] at hm
    refine PySem.W.kxs_getMethod PySem.W.kxs_ValueError hso (PySem.W.looks_opaque XK k.opq) (l₀ := cd.mro) ?_ rfl XK hm hI (PySem.W.ks_ne XK J hc) (by decide) h
    exact fun A Q E s k q => wpAny_bind ((PySem.W.looks_clsIn XK hc) A _ E s k (wpAny_pure q))
/-- the wrapper called: nothing of it is told -/
theorem mw_call {u : Addr} {us : List Value} {Q : Value → Shared → Prop} (T : OexC X.K C) (I : Inv X pins σ H s) (e : H a = some (exo a C none)) (hu : s.heap.get? u = some (PySem.W.kxs_mw "ValueError.__init__" a)) (hz : us.length ≤ sizeLine)
    (h : ∀ s', Inv X pins σ H s' → Q .none s') : wpAny (model X.prog X.w) A (call (.ref u) us) Q E s := by
  obtain ⟨nm, q, N, bs, bm, sn, sub, ab, col, dd, k0, k1, k2, k3, k5, hC, hbm⟩ := T.cls
  obtain ⟨t1, ho⟩ := exo_at I.hok e
  have hCs := I.kIn _ _ hC
  obtain ⟨hh, g, d, tk, os⟩ := s
  refine wpAny_call (codeAny_of_tree ?_)
  show wpAny _ A.in1 (callAny (.ref u) ⟨us, []⟩) _ _ _
  simp only [callAny]
  refine wpAny_bind (wpAny_load hu ?_)
  simp only [PySem.W.kxs_mw, show (Value.type "method-wrapper" == Value.type "method" || Value.type "method-wrapper" == Value.type "builtin_function_or_method" || Value.type "method-wrapper" == Value.type "method-wrapper") = true by decide, if_true]
  refine PySem.W.KFB.if_so (by decide) ?_
  refine wpAny_bind (PySem.W.check_bound_init PySem.F.excBase_ValueError.toExcCallFacts hCs ho rfl ?_)
  refine wpAny_bind (wpAny_pure (wpAny_pure ?_))
  refine ⟨plainId_quiet PySem.F.excBase_ValueError.init.plain _, codeAny_builtin PySem.F.excBase_ValueError.initEntry ?_⟩
  refine PySem.W.exc_init_tree (cls := .ref C) (t0 := t1) (dv := none) (c2 := .none) (c3 := .none) (b4 := .bool false) ho hz fun h' k he ht => ?_
  have J := I.write (t' := tk) (x := a) (e := a) (o := exo a C none) (by rw [e]; exact True.intro) (.inl rfl) k ⟨_, he⟩ (exo_ok he)
  have eu : upd H a (exo a C none) = H := by
    funext b
    by_cases hb : b = a
    · rw [hb, upd_same, e]
    · rw [upd_ne hb]
  rw [eu] at J
  exact h _ J
end
/-! ### the def -/
/-- __init__(self, part): one field is stored -/
def spInit (K : PySem.W.Frag) (D : Addr) (fl : Str) : Sp := fun vs H Q _ => ∃ (a C : Addr) (y : V), vs = [.ref a, y] ∧ OexC K C ∧ SupE K C D ∧ PySem.W.findIn K (.ref C) fl = some none ∧ H a = some (exo a C none) ∧
  ∀ dx, H dx = none → dx ≠ a → Q .non (upd (upd H dx (exd dx [(fl, y)])) a (exo a C (some dx)))
def tSupE (K : PySem.W.Frag) (D : Addr) (i : Nat) : TS := fun Dd σ H => ∃ a C, σ[i]? = some (some (.ref a)) ∧ OexC K C ∧ SupE K C D ∧ H a = some (exo a C none) ∧ Dd.nx σ H
section
variable {P : Program} {w : World} {K : PySem.W.Frag} {mg : Str → Option Value} {base : Heap} {N ps : List Str} {qual : Str} {scope : Scope} {f cc cda D : Addr} {A : Around} {outer : List Env} {s0 : Shared} {H0 : Hp} {E0' : XK} {CX : CXT}
theorem pat_supE {sf : Str} {i : Nat} {c : Str} {j : Nat} {body : List Stmt} {p0 p1 p2 apos pos pos' : Pos} {pl : Sem Bool} (F : SupF P K mg f cc cda D sf)
    (hN : N[i]? = some sf) (hk : scope.kind = .function) (hks : scope.names.lookup ("super" : Str) = some .globalImplicit) (hkc : scope.names.lookup cw = some .free) (hka : scope.names.lookup sf = some .local)
    (hoc : (cellsFrom (s0.heap.objs.size + 1) scope.names []).lookup cw = none)
    (he : starEach [.Constant (.str c) j p2] (envS qual scope s0.heap.objs.size f (.ref cda) cc) = (false, eval (.Constant (.str c) j p2) (envS qual scope s0.heap.objs.size f (.ref cda) cc)) :: starEach [] (envS qual scope s0.heap.objs.size f (.ref cda) cc))
    (hi : interactive (envS qual scope s0.heap.objs.size f (.ref cda) cc) = false) (hsw : swapsWith (.Call (.Attribute (.Call (.Name "super" p0) [] [] p1) "__init__" apos) [.Constant (.str c) j p2] [] pos) none pos'.line (envS qual scope s0.heap.objs.size f (.ref cda) cc) = pure false)
    (hev : eval (.Call (.Attribute (.Call (.Name "super" p0) [] [] p1) "__init__" apos) [.Constant (.str c) j p2] [] pos) (envS qual scope s0.heap.objs.size f (.ref cda) cc) = (do
      let ov ← attributeBase (.Call (.Name "super" p0) [] [] p1) "__init__" (envS qual scope s0.heap.objs.size f (.ref cda) cc) (eval (.Call (.Name "super" p0) [] [] p1) (envS qual scope s0.heap.objs.size f (.ref cda) cc))
      standAt apos.atName
      let (fm, first) ← holding [ov] (getMethod ov "__init__" pl)
      callWith pos fm first (backTo pos (starEach [.Constant (.str c) j p2] (envS qual scope s0.heap.objs.size f (.ref cda) cc))) [])) :
    PAt1 (cxS CX P w K mg base N qual scope f (.ref cda) cc A outer s0 H0 E0') body (.Expr (.Call (.Attribute (.Call (.Name "super" p0) [] [] p1) "__init__" apos) [.Constant (.str c) j p2] [] pos) pos') (tSupE K D i) := by
  refine ⟨fun pins s σ H Dd I hw => ?_⟩
  obtain ⟨a, C, hσ, T, kc, hs, hw⟩ := hw
  obtain ⟨ox, _, J⟩ := exo_inst (d := none) I hs
  refine PySem.ks_wpAt_Expr_any ?_ hi hsw
  refine PySem.ks_wpAt_MethodCall (pl := pl) ?_ hev
  refine super_ok F I hσ hN hk hks hkc hka hoc J kc.sub (by decide) fun so h' kp eso ho => ?_
  have I2 : Inv (cxS CX P w K mg base N qual scope f (.ref cda) cc A outer s0 H0 E0') pins σ H { s with heap := h' } := I.kept (t' := s.toks) kp
  refine superE_meth (X := cxS CX P w K mg base N qual scope f (.ref cda) cc A outer s0 H0 E0') (D := D) I2 hs kc ho ?_
  have I3 : Inv (cxS CX P w K mg base N qual scope f (.ref cda) cc A outer s0 H0 E0') ((h'.objs.size, PySem.W.kxs_mw "ValueError.__init__" a) :: pins) σ H { s with heap := h'.push (PySem.W.kxs_mw "ValueError.__init__" a), toks := s.toks + 1 } :=
    ClX.pin_new (s := { s with heap := h' }) I2 (fun _ _ z => Heap.get?_push_of_some _ z) (Nat.le_refl _) (Heap.get?_push_size h' rfl) (fun v z => nomatch z)
  refine PySem.W.kxs_callWith (i := "ValueError.__init__") (x := a) (by rfl) (Calls.evalArgs_plain ?_)
  refine Calls.spliced_cons (thn ((show PE (cxS CX P w K mg base N qual scope f (.ref cda) cc A outer s0 H0 E0') (.Constant (.str c) j p2) (tC (.str c)) from pe_str).run _ _ σ H (fun v H1 => H1 = H ∧ v = .str c) I3 ⟨rfl, rfl⟩) fun u s2 ⟨v, H2, I4, r, q1, q2⟩ => Calls.spliced_nil ?_)
  subst q1
  refine ⟨ClX.pin_at I4, ?_⟩
  exact mw_call T I4 hs (ClX.pin_at I4) (by show 1 ≤ sizeLine; decide) fun s3 I5 => ⟨σ, _, ClX.unpin I5, hw⟩
theorem init_ok {k : Nat} {x qual : Str} {st : Stmt} {fd : FuncData} {fl : Str} {c : Str} {j : Nat} {p0 p1 p2 p3 p4 p5 apos pos pos' pos2 : Pos} {pl : Sem Bool} (Fd : FunS K x qual st [] f cc cda D fd) (F : SupF P K mg f cc cda D "self") (S : SScope ["self", fl] ["self", fl] (defScope st))
    (hb : defBody st = [.Expr (.Call (.Attribute (.Call (.Name "super" p0) [] [] p1) "__init__" apos) [.Constant (.str c) j p2] [] pos) pos', .Assign [.Attribute (.Name "self" p3) fl p4] (.Name fl p5) pos2])
    (hks : (defScope st).names.lookup ("super" : Str) = some .globalImplicit) (hkc : (defScope st).names.lookup cw = some .free) (hka : (defScope st).names.lookup ("self" : Str) = some .local) (hkf : (defScope st).names.lookup fl = some .local)
    (hd : (fl == ("__debug__" : Str)) = false) (hcd : (fl == ("__classdict__" : Str)) = false)
    (hi : ∀ L : Addr, interactive (envS qual (defScope st) L f (.ref cda) cc) = false)
    (hev : ∀ env : Env, eval (.Call (.Attribute (.Call (.Name "super" p0) [] [] p1) "__init__" apos) [.Constant (.str c) j p2] [] pos) env = (do
      let ov ← attributeBase (.Call (.Name "super" p0) [] [] p1) "__init__" env (eval (.Call (.Name "super" p0) [] [] p1) env)
      standAt apos.atName
      let (fm, first) ← holding [ov] (getMethod ov "__init__" pl)
      callWith pos fm first (backTo pos (starEach [.Constant (.str c) j p2] env)) [])) :
    FnOk P w K mg base CX (k + 1) f fd ["self", fl] (spInit K D fl) := by
  obtain ⟨oc, od, kV, doc, pm, an, ct, osl, rfl, lk, hcdI, _⟩ := Fd.ex
  refine fn_ofS lk hcdI S Fd.cell (fun vs H Q E h => ?_) fun A outer s H vs Q E hr h => ?_
  · obtain ⟨a, C, y, rfl, _⟩ := h; rfl
  · rw [hb]
    obtain ⟨a, C, y, rfl, T, kc, hno, hs, hq⟩ := h
    have pv1 : PE (cxS CX P w K mg base ["self", fl] qual (defScope st) f (.ref cda) cc A outer s H E) (.Name "self" p3) (tVar 0) := pe_var rfl (.inl hka) (by decide) (by decide)
    have pv2 : PE (cxS CX P w K mg base ["self", fl] qual (defScope st) f (.ref cda) cc A outer s H E) (.Name fl p5) (tVar 1) := pe_var rfl (.inl hkf) hd hcd
    refine ⟨_, pat_cons (pat_supE (i := 0) F rfl S.kind hks hkc hka (own_cls S) rfl (hi _) rfl (hev _)) (pat_of (pss_one (ps_ost pv1 pv2 rfl))), ?_⟩
    exact ⟨a, C, rfl, T, kc, hs, y, rfl, .ref a, rfl, a, C, rfl, T, hno, .inl ⟨hs, fun dx n ne => hq dx n ne⟩⟩
end
end MR
set_option maxHeartbeats 4000000
/-! Mirror 18: raise. -/
namespace MR
open PySem PySem.Spec PyProof.Rows L2

/-- an exception that is made: its class, the number of its dict -/
def TrM (C : Cst) (E : XK) (X : Cx) (e : Expr) (f : LS → LH → Out LF) : Prop := ∃ t : L2.St → Hp → XK → Prop, PMk X e t ∧ ∀ (ρ : List Addr) (h : LH) (H : Hp) (l : LS) (σ : L2.St), Rel C ρ h H → RSl ρ l σ → EndsOk C E ρ { nx := fun _ _ => True, rt := fun _ _ => True } (f l h) → t σ H E
/-- no exception is let out but by the mirror's word -/
def sRaise0 (c : Nat) (f : LS → LH → Out LV) : LS → LH → Out LF := fun l h => (f l h).bind fun _ h1 => .ex c none h1
def sRaise1 (c : Nat) (fl : List Nat) (f : LS → LH → Out LV) : LS → LH → Out LF := fun l h => (f l h).bind fun v h1 => h1.new (.xd fl v) fun n h2 => .ex c (some n) h2
section
variable {C : Cst} {E : XK} {X : Cx} {e : Expr} {fe : LS → LH → Out LV} {x : Str} {p pos pos2 : Pos}
/-- raise X(e), X without an __init__ of its own -/
theorem s_raise0 {B newId initId : String} {bmB : List Value} (c : Nat) (hc : X.calm = true) (tk : Takes X (fun cls d _ H => E cls d H)) (F : ExcBaseFacts B newId initId bmB) (q : PySem.W.excIn X.K (C.exc c) bmB newId = true) (gC : X.mg x = some (.ref (C.exc c))) (kC : PySem.W.keepIn X.K (.ref (C.exc c)) = true) (r : Raises X (.ref (C.exc c)))
    (he : TrE C E X e fe) (hg : Gl X x := by rfl) (hs : starEach [e] X.env = (false, eval e X.env) :: starEach [] X.env := by rfl) (hdb : (x == ("__debug__" : Str)) = false := by decide) : TrS C E X (.Raise (some (.Call (.Name x p) [e] [] pos)) none pos2) (sRaise0 c fe) := by
  obtain ⟨t, pe, i⟩ := he
  refine ⟨_, ps_raise hc tk (SkE.pmk_own1 F q gC kC r hg pe hs hdb), fun ρ h H l σ D R S o => i ρ h H l σ _ R S (EndsOk.bind o fun v h1 ρ1 H1 u p1 R1 z o1 => ?_)⟩
  exact o1 ρ1 H1 none (pre.refl _) R1 rfl
/-- a class whose __init__ is proved: one field -/
structure ExT (P : Program) (w : World) (K : PySem.W.Frag) (mg : Str → Option Value) (base : Heap) (C : Cst) (x : Str) (c k : Nat) (D : Addr) (fl : List Nat) : Prop where
  cls : OexC K (C.exc c)
  sup : SupE K (C.exc c) D
  fld : PySem.W.findIn K (.ref (C.exc c)) (sOf fl) = some none
  name : mg x = some (.ref (C.exc c))
  ex : ∃ fI fd, PySem.W.findIn K (.ref (C.exc c)) "__init__" = some (some (.ref fI)) ∧ PySem.W.typeIn K (.ref fI) = some (.type "function") ∧ FnOk P w K mg base (L2.CX P w) k fI fd ["self", sOf fl] (spInit K D (sOf fl)) ∧ Binds K fd ["self", sOf fl] []
theorem s_raise1 {k : Nat} {D : Addr} {fl : List Nat} (c : Nat) (hc : X.calm = true) (tk : Takes X (fun cls d _ H => E cls d H)) (T : ExT X.prog X.w X.K X.mg X.base C x c k D fl) (hr : Room (k + 1) X.A) (he : TrE C E X e fe) (hg : Gl X x := by rfl)
    (hs : starEach [e] X.env = (false, eval e X.env) :: starEach [] X.env := by rfl) (hdb : (x == ("__debug__" : Str)) = false := by decide) (hpl : (backTo pos (starEach [] X.env)).any (·.1) = false := by rfl) : TrS C E X (.Raise (some (.Call (.Name x p) [e] [] pos)) none pos2) (sRaise1 c fl fe) := by
  obtain ⟨t, pe, i⟩ := he
  obtain ⟨fI, fd, k1, k2, k3, k4⟩ := T.ex
  refine ⟨_, ps_raise hc tk (pmk_oex (ds := []) (dvs := []) T.cls k1 k2 k3 hr k4 .nil passL hg T.name (pa_cons pe pa_nil hs) hdb hs hpl), fun ρ h H l σ D' R S o => i ρ h H l σ _ R S (EndsOk.bind o fun v h1 ρ1 H1 u p1 R1 z o1 => ?_)⟩
  refine ⟨by show 1 ≤ 1000; decide, fun a ha => ?_⟩
  refine ⟨a, C.exc c, u, rfl, T.cls, T.sup, T.fld, upd_same, fun dx hdx ne => ?_⟩
  have hdx1 : H1 dx = none := by rw [upd_ne ne] at hdx; exact hdx
  refine ⟨rfl, dx, [(sOf fl, u)], upd_same, by rw [upd_ne ne, upd_same], hdx1, ?_⟩
  have eH : upd (del (upd (upd (upd H1 a (exo a (C.exc c) none)) dx (exd dx [(sOf fl, u)])) a (exo a (C.exc c) (some dx))) a) dx (.xd [(sOf fl, u)]) = upd H1 dx (.xd [(sOf fl, u)]) := by
    funext b
    by_cases h1 : b = dx
    · rw [h1, upd_same, upd_same]
    · rw [upd_ne h1, upd_ne h1]
      by_cases h2 : b = a
      · rw [h2, del_same, ha]
      · rw [del_ne h2, upd_ne h2, upd_ne h1, upd_ne h2]
  rw [eH]
  unfold LH.new at o1
  rw [frN_eq] at o1
  cases e1 : Nat.blt h1.n 1000000 with
  | false => rw [e1] at o1; exact o1.elim
  | true =>
    rw [e1] at o1
    have R2 : Rel C (ρ1 ++ [dx]) ⟨h1.n + 1, h1.t.put 20 h1.n (.xd fl v)⟩ (upd H1 dx (.xd [(sOf fl, u)])) :=
      R1.new hdx1 (fun b w hb => by rw [upd_ne (ne_of_none hb hdx1)]; exact hb) ⟨u, z.mono (pre.app _ _), upd_same⟩ (by have := blt_lt e1; omega)
    exact o1 (ρ1 ++ [dx]) _ (some dx) (pre.app _ _) R2 ⟨dx, by rw [← R1.len, List.getElem?_append_right (Nat.le_refl _)]; simp, rfl⟩
end
end MR
set_option maxHeartbeats 4000000
/-! Mirror 19: several clauses `except x as n` with one name. -/
namespace MR
open PySem PySem.Spec PyProof.Rows L2

abbrev TSA := Addr → Value → Option Addr → TS
/-- what the clauses wish, one after the other -/
def wManyAs (K : PySem.W.Frag) (nn i : Nat) (Wout : WX) (D : Ends) : List (Value × TSA) → WX
  | [] => Wout
  | (c, ts) :: r => fun cls d σ H => σ.length = nn → wAs K c i ts (wManyAs K nn i Wout D r) D cls d σ H
inductive HdsAs (X : Cx) (n : Str) : List ExceptHandler → List (Value × TSA) → Prop
  | nil : HdsAs X n [] []
  | cons {x : Str} {c : Value} {ts : TSA} {b₀ : Stmt} {suite : List Stmt} {np pos' : Pos} {hds : List ExceptHandler} {l : List (Value × TSA)} (hc : Names X x c)
      (hsu : ∀ (a : Addr) (oe : Obj) (cls : Value) (d : Option Addr) (pn : List (Addr × Obj)), Zc cls d oe → (∃ vs, oe.data = .fields vs) → PSs (X.suite a ((a, oe) :: pn)) (b₀ :: suite) (ts a cls d)) (r : HdsAs X n hds l) :
      HdsAs X n (.ExceptHandler (some (.Name x np)) (some n) (b₀ :: suite) pos' :: hds) ((c, ts) :: l)
section
variable {X : Cx} {n : Str} {i : Nat} {body : List Stmt} {h₀ : ExceptHandler} {hds : List ExceptHandler} {l : List (Value × TSA)} {pos : Pos} {tb : WX → TS} {Wout : WX}
theorem ps_try_manyAs (hs : X.stack = X.env :: X.outer) (hf : X.env.frame = some X.env.locals) (hN : X.N.Nodup) (hi : X.N[i]? = some n) (hln : X.env.kindOf n = some .local) (tk : Takes X Wout)
    (hb : ∀ (W : WX) (pn : List (Addr × Obj)) (xe : Value → Shared → Prop), Takes (X.tr pn xe) W → PassesOwn (model X.prog X.w) X.A X.env xe → PSs (X.tr pn xe) body (tb W))
    (hh : HdsAs X n (h₀ :: hds) l) : PS X (.Try body (h₀ :: hds) [] [] pos) (fun D σ H => tb (wManyAs X.K X.N.length i Wout D l) D σ H) := by
  refine ⟨fun pins s σ H D I h => ?_⟩
  have ok := I.ok
  have hfr : X.A.frames = some (X.env :: X.outer) := by rw [ok.frames, hs]
  have hloc : Loc X.env.scope n := .inl hln
  refine wpAny_Try_except ?_
  refine wpAny_mono ((hb (wManyAs X.K X.N.length i Wout D l) (X.pn ++ pins) (fun e s₁ => wpAny (model X.prog X.w) X.A (noteFrame e X.env) (fun _ s₂ => wpAny (model X.prog X.w) X.A (setFlight e none) (fun _ s₃ =>
    wpAny (model X.prog X.w) X.A (handleBy e X.env (h₀ :: hds)) (SP X pins D) X.xe s₃) X.xe s₂) X.xe s₁) (fun u s' xx => ?_) PassesOwn.looking).run [] s σ H D (I.toTry _) h) (fun f s1 hsp => ?_) (fun e s1 he => he)
  · obtain ⟨a, B, sI, pins', σ', H', cls, d, rfl, J', nb, up, sky, na, os, ag, w⟩ := xx
    have J : Inv X pins σ' H' sI := J'.ofTry ok
    have sky' : Sky B (X.env :: X.outer) a (Zc cls d) X.env.locals s'.heap := by rw [← hs]; exact sky
    show wpAny (model X.prog X.w) X.A (noteFrame (.ref a) X.env) _ _ _
    refine Sky.land Zc.steady hfr hf sky' fun h3 fl3 up3 => ?_
    have J3 : Inv X pins σ' H' { s' with heap := h3 } := J.landed nb fl3.1 (up.trans up3) os ag
    obtain ⟨oe3, vs3, he3, hz3, hd3⟩ := fl3.there
    have notFr : ∀ {h : Heap} {o : Obj} {vs : Array Value}, h.FunFrames B (X.env :: X.outer) → h.get? a = some o → o.data = .fields vs → a ∉ frs (X.env :: X.outer) := fun {h o vs} ff e dd hm => by
      obtain ⟨_, o', e', hnf⟩ := ff.mem hm
      rw [e] at e'; cases e'
      exact hnf _ dd
    have nfr := notFr fl3.2.2.1 he3 hd3
    have nL : a ≠ X.env.locals := fun z => nfr (List.mem_filterMap.mpr ⟨X.env, List.mem_cons_self, by rw [hf, z]⟩)
    have nF : a ∉ X.fs := fun hm => by
      obtain ⟨e, he, q⟩ := List.mem_filterMap.mp hm
      exact nfr (List.mem_filterMap.mpr ⟨e, List.mem_cons_of_mem _ he, q⟩)
    have S3 := J3.suite he3 hd3 na nL nF
    have go : ∀ {hds' : List ExceptHandler} {l' : List (Value × TSA)}, HdsAs X n hds' l' → wManyAs X.K X.N.length i Wout D l' cls d σ' H' →
        wpAny (model X.prog X.w) X.A (handleBy (.ref a) X.env hds') (SP X pins D) X.xe { s' with heap := h3 } := by
      intro hds' l' hk
      induction hk with
      | nil =>
        intro w
        refine wpAny_handleBy_nil ?_
        obtain ⟨k1, k2, k3, oe, vs, T, oT, ts', he, hz, hd, h1, hr⟩ := id fl3
        unfold PySem.passOn
        refine wpAny_bind (wpAny_field he hd h1 ?_)
        rw [if_neg (show ¬ ((Value.ref T == Value.none) = true) from by simp)]
        have fin : wpAny (model X.prog X.w) X.A (setFlight (.ref a) X.env.frame) (fun _ s4 => wpAny (model X.prog X.w) X.A (throw (.ref a) : Sem Flow) (SP X pins D) X.xe s4) X.xe { s' with heap := h3 } := by
          rw [hf]
          refine HandSPX.setFlight_upZ fl3 fun h4 hh4 up4 => wpAny_throw (tk _ _ ?_)
          exact ⟨a, B, sI, pins, σ', H', cls, d, rfl, J, nb, (up.trans up3).trans up4, .inr (.inr (by rw [hs]; exact hh4)), na, os, ag, w⟩
        first
          | exact wpAny_bind (wpAny_pure (wpAny_bind fin))
          | exact wpAny_bind fin
      | @cons x c ts b₀ suite np pos' hds2 l2 hc hsu r ih =>
        intro w
        obtain ⟨b, hb1, hyes, hno⟩ := w J.len
        refine wpAny_handleBy_cons (codeAny_handlers_test ?_) (by intro q; cases q)
        have LT : PySem.W.Looks (model X.prog X.w) h3 (typeOf (.ref a)) cls := fun A Q E s k q => wpAny_typeOf_ref (k _ _ he3) (by rw [hz3.1]; exact q)
        have LM := PySem.W.exm_one (M := model X.prog X.w) (J3.kIn) LT hb1
        have test : ∀ {Q : Value → Shared → Prop} {E : Value → Shared → Prop}, Q c { s' with heap := h3 } → wpAny (model X.prog X.w) (X.A.mark (some (.ref a))) (eval (.Name x np) X.env) Q E { s' with heap := h3 } := fun {Q E} q => by
          obtain ⟨hg, hdbg, hm | ⟨hm, hv, hnn⟩⟩ := hc
          · exact ld_glob (X := X.suite a ((a, oe3) :: (X.pn ++ pins))) S3 hg hm q hdbg
          · exact ld_blt (X := X.suite a ((a, oe3) :: (X.pn ++ pins))) S3 hg hm hv q hnn hdbg
        refine test (LM.here ?_)
        cases b with
        | true =>
          refine codeAny_handlers_suite_as ?_
          refine HandSPX.lands_againZ fl3 fun h4 fl4 up4 => ?_
          have J4 : Inv X pins σ' H' { s' with heap := h4 } := J.landed nb fl4.1 ((up.trans up3).trans up4) os ag
          obtain ⟨oe4, vs4, he4, hz4, hd4⟩ := fl4.there
          have S4 := J4.suite he4 hd4 na nL nF
          refine store_ok (X := X.suite a ((a, oe4) :: (X.pn ++ pins))) (v := .ref a) S4 hN hi hloc rfl (fun s5 S5 => ?_) (.inr hln)
          refine wpAny_mono ((hsu a oe4 cls d (X.pn ++ pins) hz4 ⟨_, hd4⟩).run [] s5 _ H' _ S5 (hyes rfl a na)) (fun f s6 hsp => ?_) (fun _ _ z => False.elim z)
          have end_ : ∀ {σ6 : L2.St} {H6 : Hp} {Q : Shared → Prop}, Inv (X.suite a ((a, oe4) :: (X.pn ++ pins))) [] σ6 H6 s6 → (∀ s7, Inv X pins (σ6.set i none) H6 s7 → Q s7) →
              wpAny (model X.prog X.w) X.A (do bindName X.env n .none; unbindBehindTheSuite X.env n pos') (fun _ s7 => Q s7) X.xe s6 := fun {σ6 H6 Q} S6 hq => gone_ok (S6.unsuite ok) hN hi hln hq
          cases f with
          | next =>
            obtain ⟨σ6, H6, S6, q6⟩ := hsp
            exact end_ S6 fun s7 J7 => ⟨_, _, J7, q6⟩
          | brk =>
            obtain ⟨σ6, H6, S6, q6⟩ := hsp
            exact end_ S6 fun s7 J7 => ⟨_, _, J7, q6⟩
          | cont =>
            obtain ⟨σ6, H6, S6, q6⟩ := hsp
            exact end_ S6 fun s7 J7 => ⟨_, _, J7, q6⟩
          | ret u =>
            obtain ⟨v6, σ6, H6, S6, r6, q6⟩ := hsp
            exact end_ S6 fun s7 J7 => ⟨_, _, _, J7, r6, q6⟩
        | false =>
          show wpAny _ X.A (handleBy (.ref a) X.env hds2) _ _ _
          exact ih (hno rfl)
    exact go hh w
  · cases f with
    | next =>
      obtain ⟨σ', H', J', q⟩ := hsp
      exact wpAny_execs_nil ⟨σ', H', J'.ofTry ok, q⟩
    | brk =>
      obtain ⟨σ', H', J', q⟩ := hsp
      exact ⟨σ', H', J'.ofTry ok, q⟩
    | cont =>
      obtain ⟨σ', H', J', q⟩ := hsp
      exact ⟨σ', H', J'.ofTry ok, q⟩
    | ret u =>
      obtain ⟨v, σ', H', J', r, q⟩ := hsp
      exact ⟨v, σ', H', J'.ofTry ok, r, q⟩
end
end MR
set_option maxHeartbeats 4000000
/-! Mirror 20: isinstance of a caught exception, with a dict or without. -/
namespace MR
section
open PySem PySem.W PySem.Spec PyProof.Rows
variable {prog : Program} {w : World} {A : Around} {E : Value → Shared → Prop} {s : Shared} {K : Frag} {x D : Addr} {ox : Obj} {od : Option Obj}
theorem kin_classO {Q : Option Value → Shared → Prop} (hga : findIn K (.ref D) "__getattribute__" = some (some (.builtin "BaseException.__getattribute__"))) (hgt : findIn K (.ref D) "__getattr__" = some none) (hsub : subIn K (.ref D) (.type "BaseException") = some true)
    (hf : findObj K D od "__class__" = some (.bind (.builtin "getset_descriptor.__get__") (.builtin "object.__class__"))) (hm : mroIn K D (.type "object") = some true)
    (X : K.In s.heap) (I : InstAt s.heap x ox D od) (h : Q (some (.ref D)) { s with toks := s.toks + 1 }) : wpAny (model prog w) A (getAttr? (.ref x) "__class__") Q E s := by
  obtain ⟨hp, g, d, t, os⟩ := s
  have L0 := I.type (M := model prog w)
  have L1 := looks_findIn (M := model prog w) X hga
  have L2 := looks_findIn (M := model prog w) X hgt
  have L3 := looks_find (M := model prog w) X I hf
  have sub : Looks (model prog w) hp (isInstance (.ref x) (.type "BaseException")) true := L0.andThen (looks_subIn X hsub)
  have hx0 : (false && onTheHeap (Value.builtin "BaseException.__getattribute__")) = false := rfl
  have hx2 : (Value.builtin "BaseException.__getattribute__" == Value.builtin "object.__getattribute__") = false := by decide +kernel
  have hx1 : (onTheHeap (Value.ref D) && Value.builtin "BaseException.__getattribute__" == Value.builtin "object.__getattribute__") = false := by rw [hx2]; rfl
  unfold getAttr? getAttrBy? getAttrBy
  refine wpAny_bind (wpAny_mkText (wpAny_bind (wpAny_attempt (wpAny_holding (wpAny_bind (L0.at (wpAny_bind (L1.at ?_))))))))
  show wpAny _ _ (if (onTheHeap (Value.ref D) && Value.builtin "BaseException.__getattribute__" == Value.builtin "object.__getattribute__") = true then _ else _) _ _ _
  rw [hx1, if_neg Bool.false_ne_true]
  unfold getAttrByItsOwn hookBefore
  refine wpAny_bind ?_
  rw [if_pos (show onTheHeap (Value.ref D) = true from rfl)]
  refine L2.at ?_
  refine wpAny_bind (wpAny_attempt (wpAny_holding ?_))
  unfold callGetattribute
  rw [hx0, if_neg Bool.false_ne_true]
  unfold boundAndCalled
  rw [PySem.F.excAttr_ValueError.ga.bind (.ref x)]
  refine wpAny_bind (wpAny_pure ?_)
  show wpAny _ _ (call (.builtin "BaseException.__getattribute__") [.ref x, .str "__class__" t]) _ _ _
  refine wpAny_call (codeAny_call_builtin PySem.F.excAttr_ValueError.ga.plain PySem.F.entry_bexc_ga ?_)
  refine @check_slot (model prog w) _ _ ⟨hp, g, d, t + 1, os⟩ "BaseException.__getattribute__" "BaseException" "__getattribute__" (.ref x) [.str "__class__" t] [] _ (by decide +kernel) (by decide +kernel) sub (PySem.F.args_bexc_ga (.ref x) (.str "__class__" t)) ?_
  unfold Builtin.«object.__getattribute__»
  refine wpAny_bind (wpAny_of_eq (a := ((Value.ref x : Value), [Value.str "__class__" t])) (by first | rfl | (simp only [slotArgs]; rfl)) ?_)
  refine wpAny_bind (wpAny_pure (wpAny_bind (L0.at (wpAny_bind (L3.at ?_)))))
  show wpAny _ _ (holding [Value.builtin "object.__class__"] (call (.builtin "getset_descriptor.__get__") [.builtin "object.__class__", .ref x, .ref D]) >>= ret) _ _ _
  refine wpAny_bind (wpAny_holding (wpAny_call (class_get (s := ⟨hp, g, d, t + 1, os⟩) (ox := ox) (od := od) X I hm ?_)))
  refine wpAny_pure ?_
  show wpAny _ _ (handedOut (.ref D)) _ _ _
  rw [handedOut_of (v := .ref D) rfl]
  first
    | exact wpAny_pure (wpAny_pure h)
    | exact wpAny_pure h
    | exact wpAny_pure (wpAny_bind (wpAny_pure (wpAny_pure h)))
theorem kitx_excO (hga : findIn K (.ref D) "__getattribute__" = some (some (.builtin "BaseException.__getattribute__"))) (hgt : findIn K (.ref D) "__getattr__" = some none) (hsub : subIn K (.ref D) (.type "BaseException") = some true) (hdct : hasDictIn K D = true)
    (hf : findObj K D od "__class__" = some (.bind (.builtin "getset_descriptor.__get__") (.builtin "object.__class__"))) (hm : mroIn K D (.type "object") = some true) : KitX K (.ref x) (.ref D) (fun h => InstAt h x ox D od) where
  ty := fun _ _ _ I => I.type
  it := fun _ _ X _ => by
    obtain ⟨cdD, hcD, _⟩ := any_some hdct
    unfold clsIn at hcD
    split at hcD
    · rename_i c' d' cd' sl' ho
      intro A' Q' E' s' k q
      unfold isType loadHead
      exact wpAny_bind (wpAny_loadPart (k _ _ (X _ _ ho)) (wpAny_pure q))
    · cases hcD
  ne := fun h tp dd its n sl X htp => by
    obtain ⟨cdD, hcD, _⟩ := any_some hdct
    refine Bool.eq_false_iff.mpr fun q => ?_
    have e : D = tp := Value.ref.inj (beq_iff_eq.mp q)
    subst e
    unfold clsIn at hcD
    split at hcD
    · rename_i c' d' cd' sl' ho
      have z := (X _ _ ho).symm.trans htp
      cases z
    · cases hcD
  ca := fun X I k => kin_classO hga hgt hsub hf hm X I k
end
open PySem PySem.Spec PyProof.Rows L2
/-- isinstance(e, c), e the exception that the suite holds; its dict, if it has one, is known -/
def rIsO (K : PySem.W.Frag) (D a : Addr) (d : Option Addr) : List V → Hp → VK → Prop := fun xs H Q => ∃ (c : V) (cv : Value) (b : Bool), xs = [.ref a, c] ∧ (∀ u, RelV c u → u = cv) ∧ PySem.W.kitOne K (.ref D) cv = some b ∧ (d = none ∨ ∃ dd fs, d = some dd ∧ H dd = some (.xd fs)) ∧ Q (.bl b) H
theorem call_isO {X : Cx} {a D : Addr} {d : Option Addr} {oe : Obj} {pn : List (Addr × Obj)} (C : ExcC X.K D) (hz : Zc (.ref D) d oe) (hf : ∃ vs, oe.data = .fields vs) : CallR (X.suite a ((a, oe) :: pn)) (.builtin "isinstance") (rIsO X.K D a d) := by
  intro pins s σ H xs us Q I r h
  obtain ⟨c, cv, b, rfl, hcv, e, hd, q⟩ := h
  cases r with
  | cons rx rr =>
    cases rr with
    | cons rt rr =>
      cases rr
      cases rx
      have ec := hcv _ rt
      subst ec
      obtain ⟨hget, _⟩ := I.pin (a, oe) (List.mem_append.mpr (.inl List.mem_cons_self))
      obtain ⟨vs, hv⟩ := hf
      have ic : (PySem.W.clsIn X.K D).isSome = true := by obtain ⟨cd, hc, _⟩ := PySem.W.any_some C.hd; rw [hc]; rfl
      have fin : ∀ od : Option Obj, PySem.W.InstAt s.heap a oe D od → PySem.W.findObj X.K D od "__class__" = some (.bind (.builtin "getset_descriptor.__get__") (.builtin "object.__class__")) → wpAny (model X.prog X.w) (X.suite a ((a, oe) :: pn)).A (call (.builtin "isinstance") [.ref a, _]) (EP (X.suite a ((a, oe) :: pn)) pins σ Q) (X.suite a ((a, oe) :: pn)).xe s := fun od J hfo =>
        PySem.W.kia_one (kitx_excO (x := a) (ox := oe) (od := od) C.hg C.hk C.hs C.hd hfo C.hm) I.kIn J e (fun z => nomatch z) fun tk => ⟨.bl b, H, I.tok _, rfl, q⟩
      have nc : PySem.W.notCls oe = true := by unfold PySem.W.notCls; rw [hv]
      rcases hd with rfl | ⟨dd, fs, rfl, hdd⟩
      · exact fin none ⟨hget, hz.1, nc, by rw [hz.2]; trivial⟩ (PySem.W.findObj_dataN ic C.ha C.hn C.ht)
      · have hx : ObjOk X.prog X.w H s.heap dd (.xd fs) := I.hok dd _ hdd
        obtain ⟨mA, hns, hr⟩ := hx
        obtain ⟨od, ho, hl⟩ := lookIn_ns hns
        exact fin (some od) ⟨hget, hz.1, nc, by rw [hz.2]; exact ho⟩ (PySem.W.findObj_data ic C.ha C.hn C.ht)
end MR
set_option maxHeartbeats 4000000
/-! Mirror 21: the word of an exception: the suites of the three clauses. -/
namespace MR
open PySem PySem.Spec PyProof.Rows L2

abbrev EN : XK := fun _ _ _ => False
/-- what the suites lean on -/
structure WordT (K : PySem.W.Frag) (C : Cst) : Prop where
  p1 : ∀ c ∈ [3, 4, 5, 7, 8, 9], PySem.W.exmOne K (.ref (C.exc c)) (.ref (C.exc 3)) = some (Nat.beq c 3)
  p2 : ∀ c ∈ [4, 5, 7, 8, 9], PySem.W.exmOne K (.ref (C.exc c)) (.ref (C.exc 4)) = some (Nat.beq c 4)
  p3 : ∀ c ∈ [5, 7, 8, 9], PySem.W.exmOne K (.ref (C.exc c)) (.ref (C.exc 2)) = some true
  xf : ∀ c ∈ [3, 4], XfC K (C.exc c) ∧ PySem.W.findIn K (.ref (C.exc c)) "part" = some none
  ex : ∀ c ∈ [5, 7, 8, 9], ExcC K (C.exc c)
  is : ∀ c ∈ [5, 7, 8, 9], ∀ j ∈ [5, 9, 7, 8], PySem.W.kitOne K (.ref (C.exc c)) (.ref (C.exc j)) = some (Nat.beq c j)
  ve : ∀ c ∈ [5, 7, 8, 9], PySem.W.kitOne K (.ref (C.exc c)) (.type "ValueError") = some true
/-! error.part -/
def tPart (K : PySem.W.Frag) (a : Addr) (cls : Value) (d : Option Addr) (w : Str) : TS := fun D σ H => σ[1]? = some (some (.ref a)) ∧ ∃ Dc dd v, cls = .ref Dc ∧ XfC K Dc ∧ PySem.W.findIn K (.ref Dc) "part" = some none ∧ d = some dd ∧ H dd = some (.xd [(("part" : Str), v)]) ∧ D.rt (if v = .non then .str w else v) H
section
variable {X : Cx} {a : Addr} {oe : Obj} {cls : Value} {d : Option Addr} {pn : List (Addr × Obj)}
theorem suite_part {w : Str} {j j2 : Nat} {p1 p2 p3 p4 p5 p6 p7 p8 p9 : Pos} (hN : X.N[1]? = some ("error" : Str)) (hv : Vis X.env.scope "error") (hz : Zc cls d oe) (hf : ∃ vs, oe.data = .fields vs) :
    PSs (X.suite a ((a, oe) :: pn)) [.Return (some (.IfExp (.Compare (.Attribute (.Name "error" p1) "part" p2) [.Is] [.Constant .none j p3] p4) (.Constant (.str w) j2 p5) (.Attribute (.Name "error" p6) "part" p7) p8)) p9] (tPart X.K a cls d w) := by
  refine ⟨fun pins s σ H D I h => ?_⟩
  obtain ⟨h1, Dc, dd, v, h2, T, hno, h3, h4, h5⟩ := h
  have hv' : Vis (X.suite a ((a, oe) :: pn)).env.scope "error" := hv
  have e1 : ∀ p, PE (X.suite a ((a, oe) :: pn)) (.Name "error" p) (tVar 1) := fun p => pe_var hN hv'
  refine (pss_one (ps_ret (pe_ifExp (pt_cmp (pc_isN (pe_xf T hno hz hf (e1 p1)))) pe_str (pe_xf T hno hz hf (e1 p6))))).run pins s σ H D I ?_
  refine ⟨.ref a, h1, rfl, h2, dd, _, v, h3, h4, rfl, ?_⟩
  by_cases hn : v = .non
  · subst hn
    exact ⟨true, by simp, by rw [if_pos rfl] at h5; exact h5⟩
  · refine ⟨false, by simp [hn], ?_⟩
    rw [if_neg hn] at h5
    exact ⟨.ref a, h1, rfl, h2, dd, _, v, h3, h4, rfl, h5⟩
/-! isinstance(error, x) -/
def tIsA (K : PySem.W.Frag) (a Dc : Addr) (d : Option Addr) (cv : Value) : TE := fun σ H Q => σ[1]? = some (some (.ref a)) ∧ ∃ b, PySem.W.kitOne K (.ref Dc) cv = some b ∧ (d = none ∨ ∃ dd fs, d = some dd ∧ H dd = some (.xd fs)) ∧ Q (.bl b) H
theorem pe_isA {Dc : Addr} {x : Str} {c : V} {cv : Value} {p p1 p2 pos : Pos} (T : ExcC X.K Dc) (hN : X.N[1]? = some ("error" : Str)) (hv : Vis X.env.scope "error") (hgl : Gl X "isinstance") (hm : X.mg "isinstance" = none) (hz : Zc (.ref Dc) d oe) (hf : ∃ vs, oe.data = .fields vs)
    (hx : PE (X.suite a ((a, oe) :: pn)) (.Name x p2) (tC c)) (hcv : ∀ u, RelV c u → u = cv) :
    PE (X.suite a ((a, oe) :: pn)) (.Call (.Name "isinstance" p) [.Name "error" p1, .Name x p2] [] pos) (tIsA X.K a Dc d cv) := by
  have hv' : Vis (X.suite a ((a, oe) :: pn)).env.scope "error" := hv
  have hgl' : Gl (X.suite a ((a, oe) :: pn)) "isinstance" := hgl
  have e1 : PE (X.suite a ((a, oe) :: pn)) (.Name "error" p1) (tVar 1) := pe_var hN hv'
  refine ⟨fun pins s σ H Q I h => (pe_callB (call_isO T hz hf) hgl' hm boot_isi (pa_cons e1 (pa_cons hx pa_nil) rfl) (by decide) (by decide) rfl rfl).run pins s σ H Q I ?_⟩
  obtain ⟨h1, b, h2, h3, h4⟩ := h
  exact ⟨.ref a, h1, c, cv, b, rfl, hcv, h2, h3, h4⟩
/-! the kinds -/
def wrd : Nat → Option (List Nat)
  | 5 => some [98, 108, 111, 99, 107]
  | 9 => some [101, 100, 105, 116]
  | 7 => some [110, 111, 116, 104, 105, 110, 103]
  | 8 => some [116, 101, 120, 116]
  | _ => none
def wordsL : List LV := [.str [98, 108, 111, 99, 107], .str [101, 100, 105, 116], .str [110, 111, 116, 104, 105, 110, 103], .str [116, 101, 120, 116]]
def kindsL (c : Nat) : List LV := [.bl (Nat.beq c 5), .bl (Nat.beq c 9), .bl (Nat.beq c 7), .bl (Nat.beq c 8)]
def xdOk (d : Option Nat) (h : LH) : Bool := match d with
  | none => true
  | some n => match h.t.get n with
    | some (.xd _ _) => true
    | _ => false
theorem xd_in {C : Cst} {ρ : List Addr} {h : LH} {H : Hp} {d' : Option Nat} {d : Option Addr} (R : Rel C ρ h H) (r : RD ρ d' d) (x : xdOk d' h = true) : d = none ∨ ∃ dd fs, d = some dd ∧ H dd = some (.xd fs) := by
  cases d' with
  | none => exact .inl r
  | some n =>
    obtain ⟨dd, e1, e2⟩ := r
    obtain ⟨o, ho, z⟩ := R.obj e1
    unfold xdOk at x
    dsimp only at x
    rw [ho] at x
    cases o with
    | xd f v => obtain ⟨u, _, z⟩ := z; exact .inr ⟨dd, _, e2, z⟩
    | _ => cases x
theorem RD.mono {ρ ρ' : List Addr} {d' : Option Nat} {d : Option Addr} (r : RD ρ d' d) (p : pre ρ ρ') : RD ρ' d' d := by
  cases d' with
  | none => exact r
  | some n => obtain ⟨a, e1, e2⟩ := r; exact ⟨a, p _ _ e1, e2⟩
theorem xdOk_put {ρ : List Addr} {C : Cst} {h : LH} {H : Hp} {d' : Option Nat} {d : Option Addr} {o : LO} {m : Nat} (R : Rel C ρ h H) (r : RD ρ d' d) (hn : h.n < 1000000) (x : xdOk d' h = true) : xdOk d' ⟨m, h.t.put 20 h.n o⟩ = true := by
  cases d' with
  | none => rfl
  | some n =>
    obtain ⟨dd, e1, _⟩ := r
    have := R.lt e1
    unfold xdOk
    dsimp only
    rw [Tr.get_put _ _ _ _ _ (by omega), if_neg (by omega)]
    exact x
def kindM (c : Nat) (w : List Nat) (h : LH) : Out LV := h.new (.lst (kindsL c)) fun _ h1 => h1.new (.lst wordsL) fun _ h2 => .ok (.str w) h2
def tKinds (C : Cst) (a : Addr) (cls : Value) (d : Option Addr) : TS := fun D σ H => σ[1]? = some (some (.ref a)) ∧ ∃ c w ρ h, c ∈ [5, 7, 8, 9] ∧ cls = .ref (C.exc c) ∧ wrd c = some w ∧ Rel C ρ h H ∧ (∃ d', RD ρ d' d ∧ xdOk d' h = true) ∧ OkG C EN RV ρ (kindM c w h) D.rt
def kCond : LS → LH → Out Bool := tOf (eOp gNe (eBM .list gCount (eVar 2) (aCons (eC (.bl true)) aNil)) (eC (.int 1)))
def kRet : LS → LH → Out LV := eOp gIx (eNew .lst (aCons (eC (.str [98, 108, 111, 99, 107])) (aCons (eC (.str [101, 100, 105, 116])) (aCons (eC (.str [110, 111, 116, 104, 105, 110, 103])) (aCons (eC (.str [116, 101, 120, 116])) aNil))))) (eBM .list gIndex (eVar 2) (aCons (eC (.bl true)) aNil))
theorem kind_out {C : Cst} {ρ : List Addr} {c : Nat} {w : List Nat} {h : LH} {Q : VK} (o : OkG C EN RV ρ (kindM c w h) Q) : h.n < 1000000 ∧ h.n + 1 < 1000000 ∧ OkG C EN RV ρ (.ok (.str w) ⟨h.n + 2, (h.t.put 20 h.n (.lst (kindsL c))).put 20 (h.n + 1) (.lst wordsL)⟩) Q := by
  unfold kindM LH.new at o
  simp only [frN_eq] at o
  cases e1 : Nat.blt h.n 1000000 with
  | false => rw [e1] at o; exact o.elim
  | true =>
    rw [e1] at o
    dsimp only at o
    cases e2 : Nat.blt (h.n + 1) 1000000 with
    | false => rw [e2] at o; exact o.elim
    | true =>
      rw [e2] at o
      exact ⟨blt_lt e1, blt_lt e2, o⟩
theorem gIx_ref {n : Nat} {i : Int} {h : LH} {xs : List LV} {v : LV} (e : seqL (.ref n) h = some xs) (k : atI xs i = some v) : gIx (.ref n) (.int i) h = .ok v h := by
  unfold gIx
  dsimp only
  rw [e]
  dsimp only
  rw [k]
  rfl
theorem suite_kinds {C : Cst} {j1 j2 j3 j4 j5 j6 j7 j8 : Nat} {q1 q2 q3 q4 q5 q6 q7 q8 q9 q10 q11 q12 q13 q14 q15 q16 q17 q18 q19 q20 q21 q22 q23 q24 q25 q26 q27 q28 q29 q30 q31 q32 q33 q34 q35 q36 q37 q38 q39 q40 q41 q42 q43 q44 q45 : Pos} (W : WordT X.K C) (hu : X.A.units + 64 < cLine) (hN : X.N = [("_law_call" : Str), "error", "_law_kinds"]) (hv : Vis X.env.scope "error") (hv2 : X.env.scope.names.lookup ("_law_kinds" : Str) = some .local) (hgl : Gl X "isinstance") (hm : X.mg "isinstance" = none)
    (g1 : Gl X "BadBlock") (m1 : X.mg "BadBlock" = some (.ref (C.exc 5))) (g2 : Gl X "BadEdit") (m2 : X.mg "BadEdit" = some (.ref (C.exc 9))) (g3 : Gl X "NothingDone") (m3 : X.mg "NothingDone" = some (.ref (C.exc 7))) (g4 : Gl X "BadText") (m4 : X.mg "BadText" = some (.ref (C.exc 8))) (g5 : Gl X "ValueError") (m5 : X.mg "ValueError" = none)
    (hl1 : (q15.endLine == q16.line) = true) (hl2 : (q30.endLine == q32.line) = true)
    (hz : Zc cls d oe) (hf : ∃ vs, oe.data = .fields vs) :
    PSs (X.suite a ((a, oe) :: pn)) [
      .Assign [.Name "_law_kinds" q1] (.List [.Call (.Name "isinstance" q2) [.Name "error" q3, .Name "BadBlock" q4] [] q5, .Call (.Name "isinstance" q6) [.Name "error" q7, .Name "BadEdit" q8] [] q9,
        .Call (.Name "isinstance" q10) [.Name "error" q11, .Name "NothingDone" q12] [] q13, .Call (.Name "isinstance" q17) [.Name "error" q18, .Name "BadText" q19] [] q20] q21) q22,
      .If (.BoolOp .Or [.Compare (.Call (.Attribute (.Name "_law_kinds" q14) "count" q15) [.Constant (.bool true) j1 q23] [] q16) [.NotEq] [.Constant (.int 1) j2 q24] q25, .UnaryOp .Not (.Call (.Name "isinstance" q26) [.Name "error" q27, .Name "ValueError" q28] [] q29) q33] q34) [.Return (some (.Constant (.str "odd") j3 q35)) q36] [] q37,
      .Return (some (.Subscript (.List [.Constant (.str "block") j4 q38, .Constant (.str "edit") j5 q39, .Constant (.str "nothing") j6 q40, .Constant (.str "text") j7 q41] q42) (.Call (.Attribute (.Name "_law_kinds" q31) "index" q30) [.Constant (.bool true) j8 q43] [] q32) q44)) q45] (tKinds C a cls d) := by
  refine ⟨fun pins s σ H D I h => ?_⟩
  obtain ⟨h1, c, w, ρ, h, hc, rfl, hw, R, ⟨d', hd1, hd2⟩, hq⟩ := h
  have hd := xd_in R hd1 hd2
  obtain ⟨hn1, hn2, hq⟩ := kind_out hq
  have T := W.ex c hc
  have hN1 : X.N[1]? = some ("error" : Str) := by rw [hN]; rfl
  have hN2 : (X.suite a ((a, oe) :: pn)).N[2]? = some ("_law_kinds" : Str) := by show X.N[2]? = _; rw [hN]; rfl
  have hnd : (X.suite a ((a, oe) :: pn)).N.Nodup := by show X.N.Nodup; rw [hN]; decide
  have hlen : σ.length = 3 := by have := I.len; rw [this]; show X.N.length = 3; rw [hN]; rfl
  have own : ∀ (x : Str) (b : Addr) (p : Pos), Gl X x → X.mg x = some (.ref b) → (x == ("__debug__" : Str)) = false → PE (X.suite a ((a, oe) :: pn)) (.Name x p) (tC (.ref b)) := fun x b p hg hm hd => pe_glob (X := X.suite a ((a, oe) :: pn)) hg hm rfl hd
  have isA : ∀ (j : Nat) (x : Str) (p p1 p2 pos : Pos), Gl X x → X.mg x = some (.ref (C.exc j)) → (x == ("__debug__" : Str)) = false → PE (X.suite a ((a, oe) :: pn)) (.Call (.Name "isinstance" p) [.Name "error" p1, .Name x p2] [] pos) (tIsA X.K a (C.exc c) d (.ref (C.exc j))) := fun j x p p1 p2 pos hg hx hdb =>
    pe_isA T hN1 hv hgl hm hz hf (own x _ _ hg hx hdb) (fun u r => r)
  have bve : PE (X.suite a ((a, oe) :: pn)) (.Name "ValueError" q28) (tC (.ty "ValueError")) := pe_bltn (X := X.suite a ((a, oe) :: pn)) g5 m5 (by decide +kernel) rfl (by decide) (by decide)
  have isV : PE (X.suite a ((a, oe) :: pn)) (.Call (.Name "isinstance" q26) [.Name "error" q27, .Name "ValueError" q28] [] q29) (tIsA X.K a (C.exc c) d (.type "ValueError")) := pe_isA T hN1 hv hgl hm hz hf bve (fun u r => r)
  have hloc : Loc (X.suite a ((a, oe) :: pn)).env.scope "_law_kinds" := .inl hv2
  have hu' : (X.suite a ((a, oe) :: pn)).A.units + 64 < cLine := hu
  have hv2' : Vis (X.suite a ((a, oe) :: pn)).env.scope "_law_kinds" := .inl hv2
  obtain ⟨t1, k1, i1⟩ : TrT C EN (X.suite a ((a, oe) :: pn)) (.Compare (.Call (.Attribute (.Name "_law_kinds" q14) "count" q15) [.Constant (.bool true) j1 q23] [] q16) [.NotEq] [.Constant (.int 1) j2 q24] q25) kCond :=
    t_cmp (op_neD hu') (im_ne X.K) (e_bm .list PySem.F.plainAttrs_list PySem.F.slot_list_count PySem.F.type_list_count mt_countB (im_count X.K) (e_var 2 hN2 hv2') (a_cons e_bl a_nil) rfl rfl hl1) e_int
  obtain ⟨t2, k2, i2⟩ : TrE C EN (X.suite a ((a, oe) :: pn)) (.Subscript (.List [.Constant (.str "block") j4 q38, .Constant (.str "edit") j5 q39, .Constant (.str "nothing") j6 q40, .Constant (.str "text") j7 q41] q42) (.Call (.Attribute (.Name "_law_kinds" q31) "index" q30) [.Constant (.bool true) j8 q43] [] q32) q44) kRet :=
    e_ix (e_lst (a_cons (e_str _ rfl) (a_cons (e_str _ rfl) (a_cons (e_str _ rfl) (a_cons (e_str _ rfl) a_nil))))) (e_bm .list PySem.F.plainAttrs_list PySem.F.slot_list_index PySem.F.type_list_index mt_index (im_index X.K) (e_var 2 hN2 hv2') (a_cons e_bl a_nil) rfl rfl hl2)
  refine (pss_cons (ps_set (i := 2) hnd hN2 hloc (pe_lst (pa_cons (isA 5 _ _ _ _ _ g1 m1 rfl) (pa_cons (isA 9 _ _ _ _ _ g2 m2 rfl) (pa_cons (isA 7 _ _ _ _ _ g3 m3 rfl) (pa_cons (isA 8 _ _ _ _ _ g4 m4 rfl) pa_nil)))))
    (hf := .inr hv2)) (pss_cons (ps_if (pw_or k1 (pw_or1 (pt_not (pt_val isV)))).pt (pss_one (ps_ret pe_str)) pss_nil) (pss_one (ps_ret k2)))).run pins s σ H D I ?_
  have is := W.is c hc
  refine ⟨h1, _, is 5 (by simp), hd, h1, _, is 9 (by simp), hd, h1, _, is 7 (by simp), hd, h1, _, is 8 (by simp), hd, size_le (n := 4) (by decide), fun q nq => ?_⟩
  have kH : ∀ b o, H b = some o → upd H q (.lst [.bl (Nat.beq c 5), .bl (Nat.beq c 9), .bl (Nat.beq c 7), .bl (Nat.beq c 8)]) b = some o := fun b o e => by rw [upd_ne (ne_of_none e nq)]; exact e
  have R1 : Rel C (ρ ++ [q]) ⟨h.n + 1, h.t.put 20 h.n (.lst (kindsL c))⟩ (upd H q (.lst [.bl (Nat.beq c 5), .bl (Nat.beq c 9), .bl (Nat.beq c 7), .bl (Nat.beq c 8)])) :=
    R.new nq kH ⟨_, .cons (.bl _) (.cons (.bl _) (.cons (.bl _) (.cons (.bl _) .nil))), upd_same⟩ (by omega)
  have hqn : (ρ ++ [q])[h.n]? = some q := by rw [← R.len, List.getElem?_append_right (Nat.le_refl _)]; simp
  have S1 : RSl (ρ ++ [q]) [none, none, some (.ref h.n)] (σ.set 2 (some (.ref q))) := by
    have S0 : RSl (ρ ++ [q]) [none, none, none] σ := ⟨by rw [hlen]; rfl, fun i v e => by
      have e : (List.replicate 3 (none : Option LV))[i]? = some (some v) := e
      rw [List.getElem?_replicate] at e
      split at e <;> cases e⟩
    exact S0.set 2 (.ref hqn)
  have hg : (h.t.put 20 h.n (.lst (kindsL c))).get h.n = some (.lst (kindsL c)) := by rw [Tr.get_put _ _ _ _ _ (by omega), if_pos rfl]
  have c1 : kCond [none, none, some (.ref h.n)] ⟨h.n + 1, h.t.put 20 h.n (.lst (kindsL c))⟩ = .ok false ⟨h.n + 1, h.t.put 20 h.n (.lst (kindsL c))⟩ := by
    simp only [kCond, tOf, eOp, eBM, eVar, nth, Out.bind, tyM, hg, aCons, aNil, eC, gCount, lstL]
    simp only [List.mem_cons, List.not_mem_nil, or_false] at hc
    rcases hc with rfl | rfl | rfl | rfl <;> rfl
  have b2 : Nat.blt (h.n + 1) 1000000 = true := Nat.ble_eq_true_of_le hn2
  have hg1 : ((h.t.put 20 h.n (.lst (kindsL c))).put 20 (h.n + 1) (.lst wordsL)).get h.n = some (.lst (kindsL c)) := by rw [Tr.get_put _ _ _ _ _ (by omega), if_neg (by omega)]; exact hg
  have hg2 : ((h.t.put 20 h.n (.lst (kindsL c))).put 20 (h.n + 1) (.lst wordsL)).get (h.n + 1) = some (.lst wordsL) := by rw [Tr.get_put _ _ _ _ _ (by omega), if_pos rfl]
  have c2 : kRet [none, none, some (.ref h.n)] ⟨h.n + 1, h.t.put 20 h.n (.lst (kindsL c))⟩ = .ok (.str w) ⟨h.n + 2, (h.t.put 20 h.n (.lst (kindsL c))).put 20 (h.n + 1) (.lst wordsL)⟩ := by
    have eS : [LV.str [98, 108, 111, 99, 107], .str [101, 100, 105, 116], .str [110, 111, 116, 104, 105, 110, 103], .str [116, 101, 120, 116]] = wordsL := rfl
    have bl : Nat.blt wordsL.length 1000 = true := rfl
    simp only [kRet, eOp, eNew, aCons, aNil, eC, Out.bind, eS, bl, LH.new, frN_eq, b2, eBM, eVar, nth, tyM, hg1, gIndex, lstL]
    have e0 : tyM MT.list (.ref h.n) ⟨h.n + 1 + 1, (h.t.put 20 h.n (.lst (kindsL c))).put 20 (h.n + 1) (.lst wordsL)⟩ = true := by unfold tyM; dsimp only; rw [hg1]
    simp only [List.mem_cons, List.not_mem_nil, or_false] at hc
    have sq : seqL (.ref (h.n + 1)) ⟨h.n + 1 + 1, (h.t.put 20 h.n (.lst (kindsL c))).put 20 (h.n + 1) (.lst wordsL)⟩ = some wordsL := by unfold seqL; dsimp only; rw [hg2]
    rcases hc with rfl | rfl | rfl | rfl <;> cases hw
    · show gIx (.ref (h.n + 1)) (.int 0) _ = _
      exact gIx_ref sq rfl
    · show gIx (.ref (h.n + 1)) (.int 2) _ = _
      exact gIx_ref sq rfl
    · show gIx (.ref (h.n + 1)) (.int 3) _ = _
      exact gIx_ref sq rfl
    · show gIx (.ref (h.n + 1)) (.int 1) _ = _
      exact gIx_ref sq rfl
  refine i1 _ _ _ _ _ _ R1 S1 ?_
  rw [c1]
  intro ρ2 H2 u p2 R2 e2
  cases e2
  have pρ := pre.app ρ q
  have hd3 := xd_in R2 ((hd1.mono pρ).mono p2) (xdOk_put (m := h.n + 1) (o := .lst (kindsL c)) R hd1 hn1 hd2)
  have h1' : (σ.set 2 (some (.ref q)))[1]? = some (some (V.ref a)) := by rw [List.getElem?_set_ne (by decide)]; exact h1
  refine ⟨h1', true, W.ve c hc, hd3, true, rfl, ?_⟩
  refine i2 ρ2 _ H2 _ _ D.rt R2 (S1.mono p2) ?_
  rw [c2]
  exact OkG.mono hq (pρ.trans p2)
end
end MR
set_option maxHeartbeats 4000000
/-! Mirror 22: _law_word and the lambdas. -/
namespace MR
open PySem PySem.Spec PyProof.Rows L2 LamX

def eqNs : List Nat → List Nat → Bool
  | [], [] => true
  | a :: r, b :: s => Nat.beq a b && eqNs r s
  | _, _ => false
theorem eqNs_ok : ∀ {a b : List Nat}, eqNs a b = true → a = b
  | [], [], _ => rfl
  | [], _ :: _, h => by cases h
  | _ :: _, [], h => by cases h
  | a :: r, b :: s, h => by
    have h : (Nat.beq a b && eqNs r s) = true := h
    rw [Bool.and_eq_true] at h
    rw [Nat.eq_of_beq_eq_true h.1, eqNs_ok h.2]
def partM (w : List Nat) (d : Option Nat) (h : LH) : Out LV := match d with
  | some n => match h.t.get n with
    | some (.xd f v) => match eqNs f [112, 97, 114, 116] with
      | true => match lvNon v with
        | true => .ok (.str w) h
        | false => .ok v h
      | false => .no
    | _ => .no
  | none => .no
def kind1M (c : Nat) (w : List Nat) (d : Option Nat) (h : LH) : Out LV := match xdOk d h with
  | true => kindM c w h
  | false => .no
def wordM (c : Nat) (d : Option Nat) (h : LH) : Out LV := match c with
  | 3 => partM [112, 114, 111, 103, 114, 97, 109] d h
  | 4 => partM [115, 105, 110, 103, 108, 101] d h
  | 5 => kind1M 5 [98, 108, 111, 99, 107] d h
  | 9 => kind1M 9 [101, 100, 105, 116] d h
  | 7 => kind1M 7 [110, 111, 116, 104, 105, 110, 103] d h
  | 8 => kind1M 8 [116, 101, 120, 116] d h
  | _ => .no
def EWord (C : Cst) (Q : VK) : XK := fun cls d H => ∃ c d' ρ h, cls = .ref (C.exc c) ∧ Rel C ρ h H ∧ RD ρ d' d ∧ OkG C EN RV ρ (wordM c d' h) Q
def TTword (C : Cst) : (XK → Hp → VK → Prop) → Hp → VK → Prop := fun tl H Q => tl (EWord C Q) H (fun _ H' => Q (.str "fine") H')
theorem part_ok {C : Cst} {K : PySem.W.Frag} {c : Nat} {w : List Nat} {d' : Option Nat} {d : Option Addr} {ρ : List Addr} {h : LH} {H : Hp} {σ : L2.St} {a : Addr} {D : Ends} (T : XfC K (C.exc c) ∧ PySem.W.findIn K (.ref (C.exc c)) "part" = some none) (hσ : 1 < σ.length) (R : Rel C ρ h H) (r : RD ρ d' d) (o : OkG C EN RV ρ (partM w d' h) D.rt) :
    tPart K a (.ref (C.exc c)) d ⟨⟨w⟩⟩ D (σ.set 1 (some (.ref a))) H := by
  unfold partM at o
  cases d' with
  | none => exact o.elim
  | some n =>
    obtain ⟨dd, e1, e2⟩ := r
    obtain ⟨ob, ho, z⟩ := R.obj e1
    dsimp only at o
    rw [ho] at o
    cases ob with
    | xd f v =>
      dsimp only at o
      obtain ⟨u, zu, hu⟩ := z
      cases q : eqNs f [112, 97, 114, 116] with
      | false => rw [q] at o; exact o.elim
      | true =>
        rw [q] at o
        have ef := eqNs_ok q
        subst ef
        refine ⟨List.getElem?_set_self hσ, C.exc c, dd, u, rfl, T.1, T.2, e2, hu, ?_⟩
        have k := lvNon_eq zu
        dsimp only at o
        cases q2 : lvNon v with
        | true =>
          rw [q2] at o k
          rw [if_pos (of_decide_eq_true k)]
          exact o.here R (.str w)
        | false =>
          rw [q2] at o k
          rw [if_neg (of_decide_eq_false k)]
          exact o.here R zu
    | _ => exact o.elim
theorem kinds_ok {C : Cst} {c : Nat} {w : List Nat} {d' : Option Nat} {d : Option Addr} {ρ : List Addr} {h : LH} {H : Hp} {σ : L2.St} {a : Addr} {D : Ends} (hc : c ∈ [5, 7, 8, 9]) (hw : wrd c = some w) (hσ : 1 < σ.length) (R : Rel C ρ h H) (r : RD ρ d' d) (o : OkG C EN RV ρ (kind1M c w d' h) D.rt) :
    tKinds C a (.ref (C.exc c)) d D (σ.set 1 (some (.ref a))) H := by
  unfold kind1M at o
  cases q : xdOk d' h with
  | false => rw [q] at o; exact o.elim
  | true =>
    rw [q] at o
    exact ⟨List.getElem?_set_self hσ, c, w, ρ, h, hc, rfl, hw, R, ⟨d', r, q⟩, o⟩
theorem word_cases {c : Nat} {d : Option Nat} {h : LH} (n : wordM c d h ≠ .no) : c = 3 ∨ c = 4 ∨ ∃ w, c ∈ [5, 7, 8, 9] ∧ wrd c = some w ∧ wordM c d h = kind1M c w d h := by
  unfold wordM at n
  split at n
  · exact .inl rfl
  · exact .inr (.inl rfl)
  · exact .inr (.inr ⟨_, by simp, rfl, rfl⟩)
  · exact .inr (.inr ⟨_, by simp, rfl, rfl⟩)
  · exact .inr (.inr ⟨_, by simp, rfl, rfl⟩)
  · exact .inr (.inr ⟨_, by simp, rfl, rfl⟩)
  · exact absurd rfl n
/-- what the clauses wish is there -/
theorem word_wish {C : Cst} {K : PySem.W.Frag} (W : WordT K C) {Q : VK} {Wout : WX} {nx bk ct : L2.St → Hp → Prop} {cls : Value} {d : Option Addr} {σ : L2.St} {H : Hp} (e : EWord C Q cls d H) :
    wManyAs K 3 1 Wout { nx := nx, rt := Q, bk := bk, ct := ct } [(.ref (C.exc 3), fun a cls d => tPart K a cls d "program"), (.ref (C.exc 4), fun a cls d => tPart K a cls d "single"), (.ref (C.exc 2), fun a cls d => tKinds C a cls d)] cls d σ H := by
  obtain ⟨c, d', ρ, h, rfl, R, r, o⟩ := e
  intro hl
  have n : wordM c d' h ≠ .no := fun z => by rw [z] at o; exact o
  have h1 : 1 < σ.length := by rw [hl]; decide
  rcases word_cases n with rfl | rfl | ⟨w, hc, hw, ew⟩
  · refine ⟨_, W.p1 3 (by simp), fun _ a na => ?_, fun z => (by cases z)⟩
    exact part_ok (W.xf 3 (by simp)) h1 R r o
  · refine ⟨_, W.p1 4 (by simp), fun z => (by cases z), fun _ _ => ⟨_, W.p2 4 (by simp), fun _ a na => ?_, fun z => (by cases z)⟩⟩
    exact part_ok (W.xf 4 (by simp)) h1 R r o
  · rw [ew] at o
    have m3 : c ∈ [3, 4, 5, 7, 8, 9] := List.mem_cons_of_mem _ (List.mem_cons_of_mem _ hc)
    have m4 : c ∈ [4, 5, 7, 8, 9] := List.mem_cons_of_mem _ hc
    have n3 : Nat.beq c 3 = false := by simp only [List.mem_cons, List.not_mem_nil, or_false] at hc; rcases hc with rfl | rfl | rfl | rfl <;> rfl
    have n4 : Nat.beq c 4 = false := by simp only [List.mem_cons, List.not_mem_nil, or_false] at hc; rcases hc with rfl | rfl | rfl | rfl <;> rfl
    refine ⟨_, W.p1 c m3, fun z => (by rw [n3] at z; cases z), fun _ _ => ⟨_, W.p2 c m4, fun z => (by rw [n4] at z; cases z), fun _ _ => ⟨_, W.p3 c hc, fun _ a na => ?_, fun z => (by cases z)⟩⟩⟩
    exact kinds_ok hc hw h1 R r o
section
variable {X : Cx} {C : Cst} {x q : Str} {sg : Scope} {g : Addr} {cdg : Value} {k : Nat}
/-- the scope of the def that catches -/
structure WordS (sg : Scope) : Prop where
  err : sg.names.lookup ("error" : Str) = some .local
  kin : sg.names.lookup ("_law_kinds" : Str) = some .local
  isi : sg.names.lookup ("isinstance" : Str) = some .globalImplicit
  ve : sg.names.lookup ("ValueError" : Str) = some .globalImplicit
  g2 : sg.names.lookup ("RoomError" : Str) = some .globalImplicit
  g3 : sg.names.lookup ("BadProgram" : Str) = some .globalImplicit
  g4 : sg.names.lookup ("BadSingle" : Str) = some .globalImplicit
  g5 : sg.names.lookup ("BadBlock" : Str) = some .globalImplicit
  g7 : sg.names.lookup ("NothingDone" : Str) = some .globalImplicit
  g8 : sg.names.lookup ("BadText" : Str) = some .globalImplicit
  g9 : sg.names.lookup ("BadEdit" : Str) = some .globalImplicit
structure WordM (mg : Str → Option Value) (C : Cst) : Prop where
  isi : mg "isinstance" = none
  ve : mg "ValueError" = none
  m2 : mg "RoomError" = some (.ref (C.exc 2))
  m3 : mg "BadProgram" = some (.ref (C.exc 3))
  m4 : mg "BadSingle" = some (.ref (C.exc 4))
  m5 : mg "BadBlock" = some (.ref (C.exc 5))
  m7 : mg "NothingDone" = some (.ref (C.exc 7))
  m8 : mg "BadText" = some (.ref (C.exc 8))
  m9 : mg "BadEdit" = some (.ref (C.exc 9))
theorem word_body {a1 a2 a3 a4 a5 a6 a7 a8 a9 b1 b2 b3 b4 b5 b6 b7 b8 b9 c1 c2 c3 c4 c5 c6 c7 c8 c9 d1 d2 d3 : Pos} {i1 i2 i3 i4 i5 : Nat}
    {j1 j2 j3 j4 j5 j6 j7 j8 : Nat} {q1 q2 q3 q4 q5 q6 q7 q8 q9 q10 q11 q12 q13 q14 q15 q16 q17 q18 q19 q20 q21 q22 q23 q24 q25 q26 q27 q28 q29 q30 q31 q32 q33 q34 q35 q36 q37 q38 q39 q40 q41 q42 q43 q44 q45 : Pos}
    {tb : WX → TS} (W : WordT X.K C) (M : WordM X.mg C) (S : WordS X.env.scope) (hs : X.stack = X.env :: X.outer) (hf : X.env.frame = some X.env.locals) (hN : X.N = [("_law_call" : Str), "error", "_law_kinds"]) (hln : X.env.kindOf "error" = some .local) (hu : X.A.units + 64 < cLine)
    (hb : ∀ (W : WX) (pn : List (Addr × Obj)) (xe : Value → Shared → Prop), Takes (X.tr pn xe) W → PassesOwn (model X.prog X.w) X.A X.env xe → PSs (X.tr pn xe) [.Expr (.Call (.Name "_law_call" a1) [] [] a2) a3] (tb W))
    (hl1 : (q15.endLine == q16.line) = true) (hl2 : (q30.endLine == q32.line) = true) : PSs X [
      .Try [.Expr (.Call (.Name "_law_call" a1) [] [] a2) a3] [
        .ExceptHandler (some (.Name "BadProgram" a4)) (some "error") [.Return (some (.IfExp (.Compare (.Attribute (.Name "error" a5) "part" a6) [.Is] [.Constant .none i1 a7] a8) (.Constant (.str "program") i2 a9) (.Attribute (.Name "error" b1) "part" b2) b3)) b4] b5,
        .ExceptHandler (some (.Name "BadSingle" b6)) (some "error") [.Return (some (.IfExp (.Compare (.Attribute (.Name "error" b7) "part" b8) [.Is] [.Constant .none i3 b9] c1) (.Constant (.str "single") i4 c2) (.Attribute (.Name "error" c3) "part" c4) c5)) c6] c7,
        .ExceptHandler (some (.Name "RoomError" c8)) (some "error") [
          .Assign [.Name "_law_kinds" q1] (.List [.Call (.Name "isinstance" q2) [.Name "error" q3, .Name "BadBlock" q4] [] q5, .Call (.Name "isinstance" q6) [.Name "error" q7, .Name "BadEdit" q8] [] q9,
            .Call (.Name "isinstance" q10) [.Name "error" q11, .Name "NothingDone" q12] [] q13, .Call (.Name "isinstance" q17) [.Name "error" q18, .Name "BadText" q19] [] q20] q21) q22,
          .If (.BoolOp .Or [.Compare (.Call (.Attribute (.Name "_law_kinds" q14) "count" q15) [.Constant (.bool true) j1 q23] [] q16) [.NotEq] [.Constant (.int 1) j2 q24] q25, .UnaryOp .Not (.Call (.Name "isinstance" q26) [.Name "error" q27, .Name "ValueError" q28] [] q29) q33] q34) [.Return (some (.Constant (.str "odd") j3 q35)) q36] [] q37,
          .Return (some (.Subscript (.List [.Constant (.str "block") j4 q38, .Constant (.str "edit") j5 q39, .Constant (.str "nothing") j6 q40, .Constant (.str "text") j7 q41] q42) (.Call (.Attribute (.Name "_law_kinds" q31) "index" q30) [.Constant (.bool true) j8 q43] [] q32) q44)) q45] c9] [] [] d1,
      .Return (some (.Constant (.str "fine") i5 d2)) d3] (tSeq (fun D σ H => tb (wManyAs X.K X.N.length 1 (fun _ _ _ _ => False) D [(.ref (C.exc 3), fun a cls d => tPart X.K a cls d "program"), (.ref (C.exc 4), fun a cls d => tPart X.K a cls d "single"), (.ref (C.exc 2), fun a cls d => tKinds C a cls d)]) D σ H) (tRet (tC (.str "fine")))) := by
  have hv : Vis X.env.scope ("error" : Str) := .inl S.err
  have hN1 : X.N[1]? = some ("error" : Str) := by rw [hN]; rfl
  have hnd : X.N.Nodup := by rw [hN]; decide
  have d3 : (("BadProgram" : Str) == ("__debug__" : Str)) = false := by decide
  have d4 : (("BadSingle" : Str) == ("__debug__" : Str)) = false := by decide
  have d2 : (("RoomError" : Str) == ("__debug__" : Str)) = false := by decide
  refine pss_cons (ps_try_manyAs (i := 1) (n := "error") hs hf hnd hN1 hln L2.takes0 hb (.cons ⟨S.g3, d3, .inl M.m3⟩ (fun a oe cls d pn hz hf => suite_part hN1 hv hz hf) (.cons ⟨S.g4, d4, .inl M.m4⟩ (fun a oe cls d pn hz hf => suite_part hN1 hv hz hf) (.cons ⟨S.g2, d2, .inl M.m2⟩ (fun a oe cls d pn hz hf => ?_) .nil)))) (pss_one (ps_ret pe_str))
  exact suite_kinds W hu hN hv S.kin S.isi M.isi S.g5 M.m5 S.g9 M.m9 S.g7 M.m7 S.g8 M.m8 S.ve M.ve hl1 hl2 hz hf
/-- the def that calls what it got: a calls it; TT: what it makes of the lambda's reading; Ψ: what is true of the heap when it is called -/
def GivesG (X : Cx) (Ng : List Str) (x : Str) (sg : Scope) (g : Addr) (cdg : Value) (bg : List Stmt) (a : Str) (TT : (XK → Hp → VK → Prop) → Hp → VK → Prop) : Prop :=
  ∀ (f : Addr) (s : Shared) (H : Hp) (Q : VK) (tl : XK → Hp → VK → Prop) (Ψ : Hp → Prop),
    (∀ (W : WX) (pn : List (Addr × Obj)) (xe : Value → Shared → Prop) (E : XK) (p1 p2 : Pos), Takes ((cxOf C8.CX0 X.prog X.w X.K X.mg X.base Ng x sg g cdg X.A X.stack s H C8.E0).tr pn xe) W → (∀ cls d σ' H', E cls d H' → W cls d σ' H') →
      PE ((cxOf C8.CX0 X.prog X.w X.K X.mg X.base Ng x sg g cdg X.A X.stack s H C8.E0).tr pn xe) (.Call (.Name a p1) [] [] p2) (fun σZ HZ Q => σZ[0]? = some (some (.ref f)) ∧ Ψ HZ ∧ tl E HZ Q)) →
    Ψ H → TT tl H Q →
    ∃ t, PSs (cxOf C8.CX0 X.prog X.w X.K X.mg X.base Ng x sg g cdg X.A X.stack s H C8.E0).nox bg t ∧ t { nx := fun _ H' => Q .non H', rt := Q } (L2.start Ng [.ref f]) H
theorem word_gives {a1 a2 a3 a4 a5 a6 a7 a8 a9 b1 b2 b3 b4 b5 b6 b7 b8 b9 c1 c2 c3 c4 c5 c6 c7 c8 c9 d1 d2 d3 : Pos} {i1 i2 i3 i4 i5 : Nat}
    {j1 j2 j3 j4 j5 j6 j7 j8 : Nat} {q1 q2 q3 q4 q5 q6 q7 q8 q9 q10 q11 q12 q13 q14 q15 q16 q17 q18 q19 q20 q21 q22 q23 q24 q25 q26 q27 q28 q29 q30 q31 q32 q33 q34 q35 q36 q37 q38 q39 q40 q41 q42 q43 q44 q45 : Pos}
    (W : WordT X.K C) (M : WordM X.mg C) (S : WordS sg) (hr : Room (k + 1) X.A) (hl1 : (q15.endLine == q16.line) = true) (hl2 : (q30.endLine == q32.line) = true) :
    GivesG X [("_law_call" : Str), "error", "_law_kinds"] x sg g cdg [
      .Try [.Expr (.Call (.Name "_law_call" a1) [] [] a2) a3] [
        .ExceptHandler (some (.Name "BadProgram" a4)) (some "error") [.Return (some (.IfExp (.Compare (.Attribute (.Name "error" a5) "part" a6) [.Is] [.Constant .none i1 a7] a8) (.Constant (.str "program") i2 a9) (.Attribute (.Name "error" b1) "part" b2) b3)) b4] b5,
        .ExceptHandler (some (.Name "BadSingle" b6)) (some "error") [.Return (some (.IfExp (.Compare (.Attribute (.Name "error" b7) "part" b8) [.Is] [.Constant .none i3 b9] c1) (.Constant (.str "single") i4 c2) (.Attribute (.Name "error" c3) "part" c4) c5)) c6] c7,
        .ExceptHandler (some (.Name "RoomError" c8)) (some "error") [
          .Assign [.Name "_law_kinds" q1] (.List [.Call (.Name "isinstance" q2) [.Name "error" q3, .Name "BadBlock" q4] [] q5, .Call (.Name "isinstance" q6) [.Name "error" q7, .Name "BadEdit" q8] [] q9,
            .Call (.Name "isinstance" q10) [.Name "error" q11, .Name "NothingDone" q12] [] q13, .Call (.Name "isinstance" q17) [.Name "error" q18, .Name "BadText" q19] [] q20] q21) q22,
          .If (.BoolOp .Or [.Compare (.Call (.Attribute (.Name "_law_kinds" q14) "count" q15) [.Constant (.bool true) j1 q23] [] q16) [.NotEq] [.Constant (.int 1) j2 q24] q25, .UnaryOp .Not (.Call (.Name "isinstance" q26) [.Name "error" q27, .Name "ValueError" q28] [] q29) q33] q34) [.Return (some (.Constant (.str "odd") j3 q35)) q36] [] q37,
          .Return (some (.Subscript (.List [.Constant (.str "block") j4 q38, .Constant (.str "edit") j5 q39, .Constant (.str "nothing") j6 q40, .Constant (.str "text") j7 q41] q42) (.Call (.Attribute (.Name "_law_kinds" q31) "index" q30) [.Constant (.bool true) j8 q43] [] q32) q44)) q45] c9] [] [] d1,
      .Return (some (.Constant (.str "fine") i5 d2)) d3] "_law_call" (TTword C) := by
  intro f s H Q tl Ψ act hc h
  refine ⟨_, word_body (tb := fun W D σ H => ∃ Ech : XK, (∀ cls d σ' H', Ech cls d H' → W cls d σ' H') ∧ σ[0]? = some (some (.ref f)) ∧ Ψ H ∧ tl Ech H (fun _ H' => D.nx σ H'))
    W M S rfl rfl rfl (by exact S.err) (hr.deeper _).units (fun W pn xe tk _ => ⟨fun pins s' σ H' D I h' => ?_⟩) hl1 hl2, ?_⟩
  · obtain ⟨Ech, hW, h1, h2, h3⟩ := h'
    have hp := act W pn xe Ech a1 a2 tk hW
    have hq := pss_one (ps_expr (pos := a3) hp)
    exact hq.run pins s' σ H' D I ⟨h1, h2, h3⟩
  · exact ⟨EWord C Q, fun cls d σ' H' e => word_wish W e, rfl, hc, h⟩
end
end MR
set_option maxHeartbeats 4000000
/-! Mirror 23: _law_word(lambda: ..) -/
namespace MR
open PySem PySem.Spec PyProof.Rows L2 LamX

/-- a function of an expression is made, its code object new, with a table of its own -/
theorem mk_tail {M : Model} {A : Around} {E : Value → Shared → Prop} {s : Shared} {name qual : Str} {params : Arguments} {body : Expr} {scope : Scope} {env : Env} {c P : Addr} {ps : Array Value} {pos : Pos} {firstLine : Nat} {mg : Str → Option Value}
    {clos : List (Str × Addr)} {Q : Value → Shared → Prop} (hcl : closureFor scope env = pure clos) (hge0 : env.globals = mainGlobals) (hg : s.heap.Ns mainGlobals mg) (hcode : env.code = .ref c) (C : PySem.W.CodeHd s.heap c P) (hP : s.heap.get? P = some (PySem.W.tabObj ps)) (ht : TriplesOk ps.toList)
    (hnf : codeAmong pos ps.toList = none) (hgP : mainGlobals ≠ P) (hb : s.heap.BuiltinsAt mg P)
    (h : ∀ c' P' ctv h' tk, Heap.ExtBut P s.heap h' → s.heap.objs.size ≤ c' → c' < h'.objs.size → s.heap.objs.size ≤ P' → h'.CodeRec (.ref c') qual → h'.get? P = some (PySem.W.tabObj (ps ++ #[rawInt pos.line, rawInt pos.col, .ref c'])) → PySem.W.CodeHd h' c' P' → h'.get? P' = some (PySem.W.tabObj #[]) →
      Q (.ref h'.objs.size) { s with heap := h'.push (PySem.W.kla_obj name qual params body scope clos ((mg "__name__").getD .none) c' ctv), toks := tk }) :
    wpAny M A (makeTail name qual params (.expr body) scope env .none .none none pos firstLine) Q E s := by
  obtain ⟨bm, ob, hbm, hne0, _, hneP, hbo, hcls, hdict, hdata⟩ := hb
  unfold makeTail
  rw [hcl, hge0]
  refine wpAny_bind (wpAny_pure ?_)
  cases clos with
  | nil =>
    simp only [List.isEmpty_nil, if_true]
    refine wpAny_bind (wpAny_pure ?_)
    refine wpAny_bind (wpAny_functionCodeX hcode (C.code hP ht) (C.tab hP) hnf fun c' h' tk hx hge hlt _ hrec htb hn2 => ?_)
    obtain ⟨P', hP', k1, k2⟩ := hn2
    have hg' := hg.extBut hx hgP
    refine wpAny_bind (wpAny_builtinsFor hg' hbm hne0 (hx _ _ hneP hbo) hcls hdict hdata ?_)
    refine wpAny_bind (wpAny_nsGet hg' ?_)
    exact wpAny_bind (wpAny_pure (wpAny_newObj_type (h c' P' .none h' tk hx hge hlt hP' hrec htb.2 (.of k1 k2) k2.2) (by size_fits)))
  | cons q r =>
    simp only [List.isEmpty_cons, Bool.false_eq_true, if_false]
    refine wpAny_bind (wpAny_newTextTuple ?_)
    refine wpAny_bind (wpAny_functionCodeX hcode ((C.keeps fun b o e => Heap.get?_push_of_some _ e).code (Heap.get?_push_of_some _ hP) ht) ((C.keeps fun b o e => Heap.get?_push_of_some _ e).tab (Heap.get?_push_of_some _ hP)) hnf fun c' h' tk hx hge hlt _ hrec htb hn2 => ?_)
    obtain ⟨P', hP', k1, k2⟩ := hn2
    have hg' := (hg.push _).extBut hx hgP
    have hx' : Heap.ExtBut P s.heap h' := fun b o hb' e => hx b o hb' (Heap.get?_push_of_some _ e)
    have hge' : s.heap.objs.size ≤ c' := Nat.le_trans (by rw [Heap.size_push]; omega) hge
    have hgP' : s.heap.objs.size ≤ P' := Nat.le_trans (by rw [Heap.size_push]; omega) hP'
    refine wpAny_bind (wpAny_builtinsFor hg' hbm hne0 (hx' _ _ hneP hbo) hcls hdict hdata ?_)
    refine wpAny_bind (wpAny_nsGet hg' ?_)
    exact wpAny_bind (wpAny_pure (wpAny_newObj_type (h c' P' _ h' tk hx' hge' hlt hgP' hrec htb.2 (.of k1 k2) k2.2) (by size_fits)))
theorem mk_fun {M : Model} {A : Around} {E : Value → Shared → Prop} {s : Shared} {name qual : Str} {params : Arguments} {body : Expr} {scope : Scope} {env : Env} {c P : Addr} {ps : Array Value} {pos : Pos} {firstLine : Nat} {mg : Str → Option Value}
    {clos : List (Str × Addr)} {Q : Value → Shared → Prop} (hcl : closureFor scope env = pure clos) (hge0 : env.globals = mainGlobals) (hg : s.heap.Ns mainGlobals mg) (hcode : env.code = .ref c) (C : PySem.W.CodeHd s.heap c P) (hP : s.heap.get? P = some (PySem.W.tabObj ps)) (ht : TriplesOk ps.toList)
    (hnf : codeAmong pos ps.toList = none) (hgP : mainGlobals ≠ P) (hb : s.heap.BuiltinsAt mg P)
    (h : ∀ c' P' ctv h' tk, Heap.ExtBut P s.heap h' → s.heap.objs.size ≤ c' → c' < h'.objs.size → s.heap.objs.size ≤ P' → h'.CodeRec (.ref c') qual → h'.get? P = some (PySem.W.tabObj (ps ++ #[rawInt pos.line, rawInt pos.col, .ref c'])) → PySem.W.CodeHd h' c' P' → h'.get? P' = some (PySem.W.tabObj #[]) →
      Q (.ref h'.objs.size) { s with heap := h'.push (PySem.W.kla_obj name qual params body scope clos ((mg "__name__").getD .none) c' ctv), toks := tk }) :
    wpAny M A (makeFunction name qual params (.expr body) scope env [] [] [] pos firstLine) Q E s := by
  rw [makeFunction_eq]
  simp only [List.zip_nil_right, List.filterMap_nil, List.isEmpty_nil, if_true, pure_bind]
  exact mk_tail hcl hge0 hg hcode C hP ht hnf hgP hb h
section
variable {X : Cx} {pins : List (Addr × Obj)} {σ : L2.St} {H : Hp} {s : Shared}
theorem codeHd_st {c P : Addr} {h1 h2 : Heap} (x : PySem.W.CodeHd h1 c P) (st : ∀ o, h1.get? c = some o → h2.get? c = some o) : PySem.W.CodeHd h2 c P :=
  let ⟨o, vs, file, tf, flags, tg, inF, text, tt, e, r⟩ := x; ⟨o, vs, file, tf, flags, tg, inF, text, tt, st _ e, r⟩
theorem codeHd_rec {c P : Addr} {h : Heap} {oc : Obj} {vs : Array Value} {t : Tok} {q : Str} (e1 : h.get? c = some oc) (e2 : oc.data = .fields vs) (e3 : vs[1]? = some (.str q t)) (hh : PySem.W.CodeHd h c P) {X : Program} {w : World} {H : Hp} : ObjOk X w H h c (CodeT c P q) :=
  ⟨⟨⟨oc, vs, t, e1, e2, e3⟩, hh⟩, ⟨oc, e1⟩, fun h1 h2 ⟨⟨oc, vs, t, a, b, c⟩, d⟩ st => ⟨⟨oc, vs, t, st _ a, b, c⟩, codeHd_st d st⟩⟩
def mkT (H : Hp) (P : Addr) (ps : Array Value) (pos : Pos) (c P' : Addr) (oc : Obj) (q : Str) : Hp := upd (upd (upd H P (.tbl (ps ++ #[rawInt pos.line, rawInt pos.col, .ref c]))) c (.frz oc (CodeT c P' q))) P' (.tbl #[])
section
variable {P c P' : Addr} {ps : Array Value} {pos : Pos} {oc : Obj} {q : Str}
theorem mkT_tab : mkT H P ps pos c P' oc q P' = some (.tbl #[]) := upd_same
theorem mkT_code (n : c ≠ P') : mkT H P ps pos c P' oc q c = some (.frz oc (CodeT c P' q)) := by unfold mkT; rw [upd_ne n, upd_same]
theorem mkT_top (n1 : P ≠ c) (n2 : P ≠ P') : mkT H P ps pos c P' oc q P = some (.tbl (ps ++ #[rawInt pos.line, rawInt pos.col, .ref c])) := by unfold mkT; rw [upd_ne n2, upd_ne n1, upd_same]
theorem mkT_ne {b : Addr} (n1 : b ≠ P) (n2 : b ≠ c) (n3 : b ≠ P') : mkT H P ps pos c P' oc q b = H b := by unfold mkT; rw [upd_ne n3, upd_ne n2, upd_ne n1]
theorem mkT_old {b : Addr} {u : HO} (hb : H b = some u) (n1 : b ≠ P) (nc : H c = none) (nP : H P' = none) : mkT H P ps pos c P' oc q b = some u := by
  rw [mkT_ne n1 (ne_of_none hb nc) (ne_of_none hb nP)]; exact hb
end
/-- the table's object is written, the code object and its table are new and known from now on; all else is kept -/
theorem inv_table2 {P c P' : Addr} {oc : Obj} {q : Str} {ps : Array Value} {pos : Pos} {h' : Heap} {t' : Nat} (I : Inv X pins σ H s) (hP : H P = some (.tbl ps)) (k : ∀ b o, b ≠ P → s.heap.get? b = some o → h'.get? b = some o)
    (hm : h'.get? P = some { cls := .none, data := .fields (ps ++ #[rawInt pos.line, rawInt pos.col, .ref c]) }) (hc : s.heap.objs.size ≤ c) (hc' : s.heap.objs.size ≤ P') (ncp : c ≠ P') (hoc : h'.get? c = some oc) (ho : ∀ (H : Hp), ObjOk X.prog X.w H h' c (CodeT c P' q)) (hp' : h'.get? P' = some { cls := .none, data := .fields #[] }) :
    Inv X pins σ (mkT H P ps pos c P' oc q) { s with heap := h', toks := t' } := by
  have nC : H c = none := I.hok.fresh hc
  have nP' : H P' = none := I.hok.fresh hc'
  have nPc : P ≠ c := ne_of_none hP nC
  have nPP : P ≠ P' := ne_of_none hP nP'
  have atP := mkT_top (H := H) (ps := ps) (pos := pos) (oc := oc) (q := q) nPc nPP
  have nP : ∀ b u, H b = some u → (∀ q, u ≠ .tbl q) → b ≠ P := fun b u e q z => by
    rw [z, hP] at e
    exact q ps (Option.some.inj e).symm
  have nN : ∀ b, H b = none → b ≠ P := fun b e z => by
    rw [z, hP] at e
    cases e
  have lt' : ∀ b o, s.heap.get? b = some o → ∀ d, s.heap.objs.size ≤ d → b ≠ d := fun b o e d hd z => by
    rw [z] at e
    exact Nat.lt_irrefl _ (Nat.lt_of_lt_of_le (Heap.lt_size e) hd)
  refine I.step (g' := s.gens) (d' := s.drawn) (ch := []) (fun b hb => absurd hb (by simp)) (fun b o _ _ _ e n => k b o (nN b n) e) (fun b o _ _ _ e n => ⟨o.slots, k b o (nN b n) e⟩)
    (fun b o _ e n => by rw [mkT_ne (nN b n) (lt' b o e _ hc) (lt' b o e _ hc')]; exact n) (fun b o _ e => ?_) (fun b xs e => mkT_old e (nP b _ e (fun q z => by cases z)) nC nP') (fun b o u e => mkT_old e (nP b _ e (fun q z => by cases z)) nC nP') (fun b qs e => ?_) (fun m hn => ?_) (fun b u e => ?_) I.bare
  · by_cases hb : b = P
    · rw [hb]
      exact ⟨_, hm⟩
    · exact ⟨o, k b o hb e⟩
  · by_cases hb : b = P
    · rw [hb, hP] at e
      cases e
      rw [hb, atP]
      exact ⟨_, rfl⟩
    · rw [mkT_old e hb nC nP']
      exact ⟨#[], by simp⟩
  · obtain ⟨ob, es, ep, ho, r⟩ := hn
    exact ⟨ob, es, ep, k _ ob (nN _ I.free) ho, r⟩
  · by_cases hb : b = P'
    · rw [hb, mkT_tab] at e
      cases e
      rw [hb]
      exact hp'
    · by_cases hb1 : b = c
      · rw [hb1, mkT_code ncp] at e
        cases e
        rw [hb1]
        exact ⟨hoc, ho _⟩
      · by_cases hb2 : b = P
        · rw [hb2, atP] at e
          cases e
          rw [hb2]
          exact hm
        · rw [mkT_ne hb2 hb1 hb] at e
          refine (I.hok b u e).stay (fun d v hd q => k d v ?_ q) (fun d q => mkT_old q (nP d _ q (fun q z => by cases z)) nC nP') fun d xs q => mkT_old q (nP d _ q (fun q z => by cases z)) nC nP'
          rcases hd with z | z
          · rw [z]
            exact hb2
          · exact nP d _ z (fun q z => by cases z)
/-! ### tables known -/
/-- the table at P is a top one of the name q, or one within -/
def LamT (C : Cst) (P : Addr) (q : Str) : Prop := ((P, q) ∈ C.tabs ∧ ∀ p ∈ C.tabs, p.1 = P → p.2 = q) ∨ C.nst = (P, q)
def LamK (C : Cst) (H : Hp) (P : Addr) (q : Str) : Prop := LamT C P q ∨ (q = inq C.nst.2 ∧ NestOk C H P)
theorem snoc_among {pos p' : Pos} {c cv : Value} {ps : Array Value} (h : TriplesOk ps.toList) (hc : codeAmong p' (ps ++ #[rawInt pos.line, rawInt pos.col, c]).toList = some cv) : codeAmong p' ps.toList = some cv ∨ cv = c := by
  have e : (ps ++ #[rawInt pos.line, rawInt pos.col, c]).toList = ps.toList ++ [rawInt pos.line, rawInt pos.col, c] := by simp
  rw [e] at hc
  exact among_app _ h hc
theorem snoc_ok {pos : Pos} {c : Addr} {ps : Array Value} (h : TriplesOk ps.toList) : TriplesOk (ps ++ #[rawInt pos.line, rawInt pos.col, .ref c]).toList := by
  have e : (ps ++ #[rawInt pos.line, rawInt pos.col, Value.ref c]).toList = ps.toList ++ [rawInt pos.line, rawInt pos.col, .ref c] := by simp
  rw [e]; exact PySem.TriplesOk_snoc _ _ _ _ h
section
variable {C : Cst} {P c P' : Addr} {ps : Array Value} {pos : Pos} {oc : Obj} {q : Str}
theorem codeT_ne {oc : Obj} {c P : Addr} {q : Str} (ps : Array Value) : HO.frz oc (CodeT c P q) ≠ .tbl ps := fun z => by
  cases z
/-- what stood before, but at P -/
theorem mk_keep (hP : H P = some (.tbl ps)) (nc : H c = none) (nP : H P' = none) {b : Addr} {u : HO} (hb : H b = some u) (n : b ≠ P) : mkT H P ps pos c P' oc q b = some u := mkT_old hb n nc nP
theorem tabS1_other {P2 : Addr} {q2 : Str} (t : TabS1 H P2 q2) (hP : H P = some (.tbl ps)) (nc : H c = none) (nP : H P' = none) (n : P2 ≠ P) : TabS1 (mkT H P ps pos c P' oc q) P2 q2 := by
  obtain ⟨ps2, h1, h2, h3⟩ := t
  refine ⟨ps2, mkT_old h1 n nc nP, h2, fun p' cv hc => ?_⟩
  obtain ⟨c2, P3, o3, e1, e2⟩ := h3 p' cv hc
  exact ⟨c2, P3, o3, e1, mkT_old e2 (fun z => by rw [z, hP] at e2; exact codeT_ne _ (Option.some.inj e2).symm) nc nP⟩
theorem tabS1_self (t : TabS1 H P q) (hP : H P = some (.tbl ps)) (nc : H c = none) (nP : H P' = none) (ncp : c ≠ P') : TabS1 (mkT H P ps pos c P' oc q) P q := by
  obtain ⟨ps2, h1, h2, h3⟩ := t
  rw [hP] at h1; cases h1
  refine ⟨_, mkT_top (ne_of_none hP nc) (ne_of_none hP nP), snoc_ok h2, fun p' cv hc => ?_⟩
  rcases snoc_among h2 hc with z | z
  · obtain ⟨c2, P3, o3, e1, e2⟩ := h3 p' cv z
    exact ⟨c2, P3, o3, e1, mkT_old e2 (fun z => by rw [z, hP] at e2; exact codeT_ne _ (Option.some.inj e2).symm) nc nP⟩
  · exact ⟨c, P', oc, z, mkT_code ncp⟩
theorem tabS1_new : TabS1 (mkT H P ps pos c P' oc q) P' (inq C.nst.2) := ⟨#[], mkT_tab, True.intro, fun p' cv hc => by
  have z : codeAmong p' [] = some cv := hc
  simp [codeAmong] at z⟩
/-- what is known of the table, and what is true behind the making -/
theorem lam_tabs (R : TabsR C H) (L : LamK C H P q) : ∃ ps, H P = some (.tbl ps) ∧ TriplesOk ps.toList ∧ (∀ (pos : Pos) (cv : Value), codeAmong pos ps.toList = some cv → ∃ c P' oc, cv = .ref c ∧ H c = some (.frz oc (CodeT c P' q)) ∧ (C.nst = (P, q) → NestOk C H P')) ∧
    ∀ (pos : Pos) (c P' : Addr) (oc : Obj), H c = none → H P' = none → c ≠ P' → TabsR C (mkT H P ps pos c P' oc q) ∧ (C.nst = (P, q) → NestOk C (mkT H P ps pos c P' oc q) P') := by
  obtain ⟨h0, hn, psN, n1, n2, n3⟩ := R
  rcases L with (⟨hm, hu⟩ | hN) | ⟨rfl, hk⟩
  · -- a top one
    have t := h0 _ hm
    obtain ⟨ps, hP, ht, ha⟩ := id t
    have neN : C.nst.1 ≠ P := fun z => hn (List.mem_map.mpr ⟨_, hm, z.symm⟩)
    have hP : H P = some (.tbl ps) := hP
    refine ⟨ps, hP, ht, fun pos cv hc => ?_, fun pos c P' oc nc nP ncp => ⟨⟨fun p hp => ?_, hn, psN, mkT_old n1 neN nc nP, n2, fun p' cv hc => ?_⟩, fun z => absurd (by rw [z]) neN⟩⟩
    · obtain ⟨c, P', oc, e1, e2⟩ := ha pos cv hc
      exact ⟨c, P', oc, e1, e2, fun z => absurd (by rw [z]) neN⟩
    · by_cases hb : p.1 = P
      · rw [hu p hp hb, hb]
        exact tabS1_self t hP nc nP ncp
      · exact tabS1_other (h0 p hp) hP nc nP hb
    · obtain ⟨c2, P2, o2, e1, e2, e3, e4, e5⟩ := n3 p' cv hc
      refine ⟨c2, P2, o2, e1, mkT_old e2 (fun z => by rw [z, hP] at e2; exact codeT_ne _ (Option.some.inj e2).symm) nc nP, e3, e4, tabS1_other e5 hP nc nP fun z => e4 (List.mem_map.mpr ⟨_, hm, z.symm⟩)⟩
  · -- the one whose lambdas hold lambdas
    obtain rfl : P = C.nst.1 := by rw [hN]
    obtain rfl : q = C.nst.2 := by rw [hN]
    have old : ∀ (pos : Pos) (c P' P2 : Addr) (oc : Obj), H c = none → H P' = none → NestOk C H P2 → NestOk C (mkT H C.nst.1 psN pos c P' oc C.nst.2) P2 := fun pos c P' P2 oc nc nP k => ⟨k.1, k.2.1, tabS1_other k.2.2 n1 nc nP k.1⟩
    have new : ∀ (pos : Pos) (c P' : Addr) (oc : Obj), H c = none → H P' = none → NestOk C (mkT H C.nst.1 psN pos c P' oc C.nst.2) P' := fun pos c P' oc nc nP => ⟨fun z => (by rw [z, n1] at nP; cases nP), fun z => (by
      obtain ⟨p, hp, e⟩ := List.mem_map.mp z
      obtain ⟨ps, h1, _⟩ := h0 p hp
      have e : p.1 = P' := e
      rw [e, nP] at h1; cases h1), tabS1_new⟩
    refine ⟨psN, n1, n2, fun pos cv hc => ?_, fun pos c P' oc nc nP ncp => ⟨⟨fun p hp => tabS1_other (h0 p hp) n1 nc nP fun z => hn (List.mem_map.mpr ⟨p, hp, z⟩), hn, _, mkT_top (ne_of_none n1 nc) (ne_of_none n1 nP), snoc_ok n2, fun p' cv hc => ?_⟩, fun _ => new pos c P' oc nc nP⟩⟩
    · obtain ⟨c, P', oc, e1, e2, e3⟩ := n3 pos cv hc
      exact ⟨c, P', oc, e1, e2, fun _ => e3⟩
    · rcases snoc_among n2 hc with z | z
      · obtain ⟨c2, P2, o2, e1, e2, e3⟩ := n3 p' cv z
        exact ⟨c2, P2, o2, e1, mkT_old e2 (fun z => by rw [z, n1] at e2; exact codeT_ne _ (Option.some.inj e2).symm) nc nP, old pos c P' P2 oc nc nP e3⟩
      · exact ⟨c, P', oc, z, mkT_code ncp, new pos c P' oc nc nP⟩
  · -- one within
    obtain ⟨k1, k2, t⟩ := hk
    obtain ⟨ps, hP, ht, ha⟩ := id t
    refine ⟨ps, hP, ht, fun pos cv hc => ?_, fun pos c P' oc nc nP ncp => ⟨⟨fun p hp => tabS1_other (h0 p hp) hP nc nP fun z => k2 (List.mem_map.mpr ⟨p, hp, z⟩), hn, psN, mkT_old n1 (fun z => k1 z.symm) nc nP, n2, fun p' cv hc => ?_⟩, fun z => absurd (by rw [z]) k1⟩⟩
    · obtain ⟨c, P', oc, e1, e2⟩ := ha pos cv hc
      exact ⟨c, P', oc, e1, e2, fun z => absurd (by rw [z]) k1⟩
    · obtain ⟨c2, P2, o2, e1, e2, e3, e4, e5⟩ := n3 p' cv hc
      refine ⟨c2, P2, o2, e1, mkT_old e2 (fun z => by rw [z, hP] at e2; exact codeT_ne _ (Option.some.inj e2).symm) nc nP, e3, e4, ?_⟩
      by_cases hb : P2 = P
      · rw [hb]
        exact tabS1_self t hP nc nP ncp
      · exact tabS1_other e5 hP nc nP hb
end
/-- a lambda is made: its code object is new, or found in the table -/
theorem lam_makeG {C : Cst} {c P : Addr} {params : Arguments} {body : Expr} {scope : Scope} {pos : Pos} {E : Value → Shared → Prop} {Q : Value → Shared → Prop} (I : Inv X pins σ H s) (hC : PySem.W.CodeHd s.heap c P) (bP : s.heap.BuiltinsAt X.mg P) (gP : mainGlobals ≠ P) (hcode : X.env.code = .ref c)
    (L : LamK C H P (X.env.qual ++ "<lambda>")) (hT : TabsR C H) (hdef : defaultsOf params X.env = ([], [])) (hfree : ∀ y ∈ scope.names, y.2 = .free → ∃ c, X.env.cells.lookup y.1 = some c)
    (h : ∀ (f c' P' : Addr) (oc : Obj) (pm ctv : Value) (H1 : Hp) (s' : Shared), Inv X pins σ H1 s' → ExtN H H1 → TabsR C H1 →
      s'.heap.get? f = some (PySem.W.kla_obj "<lambda>" (X.env.qual ++ "<lambda>") params body scope (cloFrom X.env.cells scope.names []) pm c' ctv) → H1 f = none → f ∉ frs X.stack → H1 c' = some (.frz oc (CodeT c' P' (X.env.qual ++ "<lambda>"))) → (C.nst = (P, X.env.qual ++ "<lambda>") → NestOk C H1 P') → Q (.ref f) s') :
    wpAny (model X.prog X.w) X.A (eval (.Lambda params body scope pos) X.env) Q E s := by
  obtain ⟨ps, hP, ht, ha, hnew⟩ := lam_tabs hT L
  refine PySem.W.kla_eval hdef ?_
  have hP' : s.heap.get? P = some { cls := .none, data := .fields ps } := I.hok P _ hP
  have nofr : ∀ f, s.heap.objs.size ≤ f → f ∉ frs X.stack := fun f hf z => by
    rcases List.mem_cons.mp (I.stkSub _ z) with e | e
    · have h1 := I.lt
      rw [← e] at h1
      exact Nat.lt_irrefl _ (Nat.lt_of_lt_of_le h1 hf)
    · exact I.nofs hf e
  cases hc : codeAmong pos ps.toList with
  | none =>
    refine mk_fun (mg := X.mg) (c := c) (P := P) (ps := ps) (closure_ok hfree) I.ok.glob (I.mod.glob.keeps I.bk) hcode hC hP' ht hc gP bP fun c' P2 ctv h' tk hx hge hlt hgeP hrec htb hnc htab2 => ?_
    obtain ⟨c2, oc, vs, t, e2, hoc, hd, hv⟩ := hrec
    cases e2
    have hsz : s.heap.objs.size ≤ h'.objs.size := Nat.le_trans hge (Nat.le_of_lt hlt)
    have nC : H c' = none := I.hok.fresh hge
    have nP2 : H P2 = none := I.hok.fresh hgeP
    have ncp : c' ≠ P2 := fun z => by
      obtain ⟨_, _, _, _, _, _, _, _, _, _, _, _, _, _, _, _, _, _, ne⟩ := hnc
      exact ne z
    have I1 := inv_table2 (t' := tk) (q := X.env.qual ++ "<lambda>") (pos := pos) (h' := h'.push (PySem.W.kla_obj "<lambda>" (X.env.qual ++ "<lambda>") params body scope (cloFrom X.env.cells scope.names []) ((X.mg "__name__").getD .none) c' ctv)) I hP
      (fun b o hb e => Heap.get?_push_of_some _ (hx b o hb e)) (Heap.get?_push_of_some _ htb) hge hgeP ncp (Heap.get?_push_of_some _ hoc) (fun H => codeHd_rec (Heap.get?_push_of_some _ hoc) hd hv (hnc.keeps fun b o e => Heap.get?_push_of_some _ e)) (Heap.get?_push_of_some _ htab2)
    have hE : ExtN H (mkT H P ps pos c' P2 oc (X.env.qual ++ "<lambda>")) := fun b o e n => mkT_old e (fun z => n ps (Option.some.inj (e.symm.trans (by rw [z]; exact hP)))) nC nP2
    obtain ⟨k1, k2⟩ := hnew pos c' P2 oc nC nP2 ncp
    refine h h'.objs.size c' P2 oc ((X.mg "__name__").getD .none) ctv _ _ I1 hE k1 (Heap.get?_push_size _ rfl) ?_ (nofr _ hsz) (mkT_code ncp) k2
    have n1 : h'.objs.size ≠ c' := Nat.ne_of_gt hlt
    have n2 : h'.objs.size ≠ P := Nat.ne_of_gt (Nat.lt_of_lt_of_le (Heap.lt_size hP') hsz)
    have n3 : h'.objs.size ≠ P2 := Nat.ne_of_gt (Heap.lt_size htab2)
    rw [mkT_ne n2 n1 n3]
    exact I.hok.fresh hsz
  | some cv =>
    obtain ⟨c', P2, oc, e, hco, hnst⟩ := ha pos cv hc
    subst e
    refine PySem.W.kla_makeFunctionHit (mg := X.mg) (c := c) (P := P) (ps := ps) (closure_ok hfree) I.ok.glob (I.mod.glob.keeps I.bk) hcode hC hP' ht hc bP fun ctv h' tk hx hsz => ?_
    have I1 : Inv X pins σ H { s with heap := h'.push (PySem.W.kla_obj "<lambda>" (X.env.qual ++ "<lambda>") params body scope (cloFrom X.env.cells scope.names []) ((X.mg "__name__").getD .none) c' ctv), toks := tk } := I.kept fun b o e => Heap.get?_push_of_some _ (hx b o e)
    exact h h'.objs.size c' P2 oc ((X.mg "__name__").getD .none) ctv H _ I1 (ExtN.refl H) hT (Heap.get?_push_size _ rfl) (I.hok.fresh hsz) (nofr _ hsz) hco hnst
/-- x(), in the def that got the lambda -/
theorem pe_actG {CXg : CXT} {Eg : XK} {Ng : List Str} {qg : Str} {sg : Scope} {g f c' P' : Addr} {cdg pm ctv : Value} {params : Arguments} {body : Expr} {scope : Scope} {k i : Nat} {a : Str} {pn : List (Addr × Obj)} {xe : Value → Shared → Prop} {W : WX} {E : XK} {tb : TE} {p1 p2 : Pos} {Ψ : Hp → Prop}
    (I : Inv X pins σ H s) (L : LamS X.env.scope scope) (hf : s.heap.get? f = some (PySem.W.kla_obj "<lambda>" (X.env.qual ++ "<lambda>") params body scope (cloFrom X.env.cells scope.names []) pm c' ctv)) (hfn : H f = none) (hfr : f ∉ frs X.stack)
    (hbind : bindArgs (PySem.W.kla_fn "<lambda>" (X.env.qual ++ "<lambda>") params body scope (cloFrom X.env.cells scope.names []) pm (.ref c') ctv) ⟨[], []⟩ = pure [])
    (tk : Takes ((cxOf CXg X.prog X.w X.K X.mg X.base Ng qg sg g cdg X.A X.stack s H Eg).tr pn xe) W) (hW : ∀ cls d σ' H', E cls d H' → W cls d σ' H') (hr : Room (k + 1) (X.A.deeper (envOfC qg sg s.heap.objs.size g cdg)))
    (hbody : ∀ (A : Around) (outer : List Env) (s : Shared) (H : Hp), Room k (A.deeper (lamEnv X scope s.heap.objs.size f c')) → PE (lamCx X A outer s H E scope f c') body (fun σ H Q => Ψ H ∧ tb σ H Q))
    (hΨ : ∀ H, Ψ H → ∃ oc, H c' = some (.frz oc (CodeT c' P' (X.env.qual ++ "<lambda>"))))
    (hN : Ng[i]? = some a) (hv : Vis sg a) (hd : (a == ("__debug__" : Str)) = false := by decide) (hcd : (a == ("__classdict__" : Str)) = false := by decide) :
    PE ((cxOf CXg X.prog X.w X.K X.mg X.base Ng qg sg g cdg X.A X.stack s H Eg).tr pn xe) (.Call (.Name a p1) [] [] p2)
      (fun σZ HZ Q => σZ[i]? = some (some (.ref f)) ∧ Ψ HZ ∧ tb σ HZ Q) := by
  refine ⟨fun pinsZ sZ σZ HZ Q IZ h => ?_⟩
  obtain ⟨hs, hc0, ht⟩ := h
  obtain ⟨ocF, hc⟩ := hΨ _ hc0
  refine wpAny_Call_Name_kw (thn ((pe_var (pos := p1) (i := i) hN hv hd hcd).run pinsZ sZ σZ HZ (fun v H1 => v = .ref f ∧ H1 = HZ) IZ ⟨.ref f, hs, rfl, rfl⟩) fun u s1 ⟨v, H1, I1, r1, q1⟩ => ?_)
  obtain ⟨ev, eH⟩ := q1
  subst ev
  rw [eH] at I1
  obtain rfl : u = Value.ref f := r1
  have of1 : s1.heap.get? f = some (PySem.W.kla_obj "<lambda>" (X.env.qual ++ "<lambda>") params body scope (cloFrom X.env.cells scope.names []) pm c' ctv) := I1.base.keep f _ hf hfn hfr (fun z => nomatch (show f ∈ ([] : List Addr) from z))
  refine PySem.W.callWith_F0 ⟨_, _, _, _, of1⟩ ?_
  have un : Un (frs X.stack) [] H HZ s.heap s1.heap := I1.base
  obtain ⟨_, ⟨⟨oc, vs, t, hoc, hdc, hvc⟩, _⟩, _, _⟩ := I1.hok c' _ hc
  have rc : codeAny (model X.prog X.w) (X.A.deeper (envOfC qg sg s.heap.objs.size g cdg)) (.call (.ref f) ⟨[], []⟩) (CR (L2.CX X.prog X.w) (envOfC qg sg s.heap.objs.size g cdg :: X.stack) X.prog X.w HZ s1 Q E) s1 := by
    refine PySem.W.kla_callFunE hr.depth of1 rfl L.co L.gen rfl ⟨c', oc, vs, t, rfl, hoc, hdc, hvc⟩ ?_
    rw [hbind]
    refine wpAny_pure (wpAny_newFunctionEnv (fun y hy => (L.own y hy).2) (fun y hy => absurd hy (by simp)) (fun h₁ hns hsb => ⟨I1.nolimit.fresh _ hsb, ?_⟩) L.kind)
    show codeAny _ _ (.expr body (lamEnv X scope s1.heap.objs.size f c')) _ _
    have kp : ∀ b o, s1.heap.get? b = some o → h₁.get? b = some o := fun b o e => hsb.extBut b o (Nat.ne_of_lt (Heap.lt_size e)) (Heap.get?_push_of_some _ e)
    have J : Inv (lamCx X (X.A.deeper (envOfC qg sg s.heap.objs.size g cdg)) (envOfC qg sg s.heap.objs.size g cdg :: X.stack) s1 HZ E scope f c') [] σ HZ { s1 with heap := h₁, toks := s1.toks + ([] : List (Str × Value)).length } :=
      lam_start2 I L I1.env0 hr.hd un hns kp
    refine PySem.W.kla_codeExpr (wpAny_mono ((hbody _ _ s1 HZ (hr.deeper _)).run [] _ _ HZ Q J ⟨hc0, ht⟩) (fun v s' hq => ?_) fun e s' hq => hq)
    obtain ⟨w', H', J', rv, q⟩ := hq
    exact ⟨w', H', J'.os, J'.bare, J'.base, J'.hok, rv, q⟩
  have hx : Passes (L2.CX X.prog X.w) ((cxOf CXg X.prog X.w X.K X.mg X.base Ng qg sg g cdg X.A X.stack s H Eg).tr pn xe) E := passes_call tk hW
  refine wpAny_call (codeAny_mono rc fun r s' hq => ?_)
  cases r with
  | error e => exact hx pinsZ σZ HZ s1 e s' I1 hq
  | ok fl =>
    cases fl with
    | ret u => exact I1.after hq
    | next => exact False.elim hq
    | brk => exact False.elim hq
    | cont => exact False.elim hq
end
/-- what is true of the heap in the lambda's body -/
def PsiL (C : Cst) (P c' P' : Addr) (q : Str) : Hp → Prop := fun H => (∃ oc, H c' = some (.frz oc (CodeT c' P' q))) ∧ (C.nst = (P, q) → NestOk C H P')
def tLamG (C : Cst) (TT : (XK → Hp → VK → Prop) → Hp → VK → Prop) (t : XK → TE) : TE := fun σ H Q => TabsR C H ∧ ∀ H1, ExtN H H1 → TabsR C H1 → TT (fun E H' Q' => t E σ H' Q') H1 Q
section
variable {X : Cx} {C : Cst}
/-- x(lambda: body) -/
theorem pe_lamcallG {TT : (XK → Hp → VK → Prop) → Hp → VK → Prop} {x a : Str} {g c P : Addr} {k : Nat} {pg : Arguments} {bg : List Stmt} {sg : Scope} {dV kV doc pm cdv ct oc : Value} {an od : Option Addr} {osl : Array (Option Value)} {Ng : List Str}
    {params : Arguments} {body : Expr} {scope : Scope} {t : XK → TE} {p lpos pos : Pos} (hg : Gl X x) (hm : X.mg x = some (.ref g)) (hk : PySem.W.keepIn X.K (.ref g) = true)
    (lk : X.K.lookup g = some ⟨oc, od, .func (PySem.W.fnOf x x pg bg sg dV kV doc pm an cdv ct), osl⟩) (hcg : PySem.W.codeIn X.K cdv x = true) (hb : L2.Binds X.K (PySem.W.fnOf x x pg bg sg dV kV doc pm an cdv ct) [a] []) (Sg : FnScope Ng [a] sg) (hNg : Ng[0]? = some a) (hva : Vis sg a)
    (hG : GivesG X Ng x sg g cdv bg a TT)
    (TB : TabB X.base X.mg c P) (hcode : X.env.code = .ref c) (hT : LamT C P (X.env.qual ++ "<lambda>")) (hr : Room (k + 2) X.A) (L : LamS X.env.scope scope) (hdef : defaultsOf params X.env = ([], []))
    (hbind : ∀ (q : Str) (cl : List (Str × Addr)) (pm cv ctv : Value), bindArgs (PySem.W.kla_fn "<lambda>" q params body scope cl pm cv ctv) ⟨[], []⟩ = pure [])
    (hbody : ∀ (A : Around) (outer : List Env) (s : Shared) (H : Hp) (E : XK) (f c' P' : Addr), Room k (A.deeper (lamEnv X scope s.heap.objs.size f c')) → PE (lamCx X A outer s H E scope f c') body (fun σ H Q => PsiL C P c' P' (X.env.qual ++ "<lambda>") H ∧ t E σ H Q))
    (hdb : (x == ("__debug__" : Str)) = false := by decide) (hd : (a == ("__debug__" : Str)) = false := by decide) (hcd : (a == ("__classdict__" : Str)) = false := by decide) :
    PE X (.Call (.Name x p) [.Lambda params body scope lpos] [] pos) (tLamG C TT t) := by
  refine ⟨fun pins s σ H Q I h => ?_⟩
  obtain ⟨hTR, h⟩ := h
  refine wpAny_Call_Name_kw (ld_glob I hg hm ?_ hdb)
  refine PySem.W.callWith_K (h₀ := X.base) I.ok.mod.kin hk ?_ (by rfl) (by rfl)
  show wpAny _ _ (spliced ((false, eval (.Lambda params body scope lpos) X.env) :: backTo pos (starEach [] X.env))) _ _ s
  refine Calls.spliced_cons (lam_makeG I (TB.code.keeps I.bk) (TB.bm.keeps I.bk) TB.gP hcode (.inl hT) hTR hdef (L.has I.ok) fun f c' P' oc pm' ctv H1 s' I1 eN T1 hf hfn hfr hco hno => ?_)
  refine Calls.spliced_nil ⟨I1.kIn, ?_⟩
  have rc : codeAny (model X.prog X.w) X.A (.call (.ref g) ⟨[.ref f], []⟩) (CR C8.CX0 X.stack X.prog X.w H1 s' Q C8.E0) s' := by
    refine run_ofS (N := Ng) (ps := [a]) (us := [.ref f]) (vs := [.ref f]) lk hcg Sg hr I1.env0 (hb s' [.ref f] I1.kIn rfl) (.cons rfl .nil) rfl fun hr' => ?_
    obtain ⟨t', ht', hq'⟩ := hG f s' H1 Q (fun E H' Q' => t E σ H' Q') (PsiL C P c' P' (X.env.qual ++ "<lambda>")) (fun W pn xe E p1 p2 tk hW => pe_actG (i := 0) I1 L hf hfn hfr (hbind _ _ _ _ _) tk hW hr' (fun A outer s H hr2 => hbody A outer s H E f c' P' hr2) (fun _ z => z.1) hNg hva hd hcd) ⟨⟨oc, hco⟩, hno⟩ (h H1 eN T1)
    exact ⟨t', ht'.nox, hq'⟩
  refine wpAny_call (codeAny_mono rc fun r s2 hq => ?_)
  cases r with
  | error e => exact (show False from hq).elim
  | ok fl =>
    cases fl with
    | ret u => exact I1.after hq
    | next => exact False.elim hq
    | brk => exact False.elim hq
    | cont => exact False.elim hq
end
section
variable {C : Cst} {E : XK} {X : Cx}
/-- all but the tables stay -/
theorem Rel.extN {ρ : List Addr} {h : LH} {H H1 : Hp} (R : Rel C ρ h H) (e : ExtN H H1) (t : TabsR C H1) : Rel C ρ h H1 :=
  ⟨R.nd, R.len, R.dom, fun i o q => by
    obtain ⟨a, ea, r⟩ := R.at_ i o q
    obtain ⟨u, hu, su⟩ := r.thing
    exact ⟨a, ea, r.keep (pre.refl _) ((e a u hu su.1).trans hu.symm) fun d u hd z => e d u hd (by rcases z with rfl | rfl <;> exact fun _ z => nomatch z)⟩, t, fun p hp => by
    obtain ⟨h1, o, w, h2⟩ := R.frz p hp
    exact ⟨e _ _ h1 (by rw [h2]; exact fun _ z => nomatch z), o, w, h2⟩⟩
/-- what a mirror asks, as a reading -/
def tIm (C : Cst) (E : XK) (f : LS → LH → Out LV) : TE := fun σ H Q => ∃ ρ h l, Rel C ρ h H ∧ RSl ρ l σ ∧ OkG C E RV ρ (f l h) Q
theorem pe_im {e : Expr} {f : LS → LH → Out LV} (h : TrE C E X e f) : PE X e (tIm C E f) := by
  obtain ⟨t, p, i⟩ := h
  exact ⟨fun pins s σ H Q I ⟨ρ, h, l, R, S, o⟩ => p.run pins s σ H Q I (i ρ h H l σ Q R S o)⟩
def eWord (f : LS → LH → Out LV) : LS → LH → Out LV := fun l h => match f l h with
  | .ok _ h1 => .ok (.str [102, 105, 110, 101]) h1
  | .ex c d h1 => match wordM c d h1 with
    | .ok v h2 => .ok v h2
    | _ => .no
  | .no => .no
theorem im_word {f : LS → LH → Out LV} : ImE C E (tLamG C (TTword C) fun E => tIm C E f) (eWord f) := fun ρ h H l σ Q R S o => by
  refine ⟨R.tabs, fun H1 eN T1 => ⟨ρ, h, l, R.extN eN T1, S, ?_⟩⟩
  unfold eWord at o
  cases e : f l h with
  | no => rw [e] at o; exact o
  | ok v h1 => rw [e] at o; exact fun ρ' H' u p R' _ => o ρ' H' _ p R' (.str _)
  | ex c d h1 =>
    rw [e] at o
    dsimp only at o
    intro ρ' H' da p R' r
    refine ⟨c, d, ρ', h1, rfl, R', r, ?_⟩
    cases e2 : wordM c d h1 with
    | no => rw [e2] at o; exact o
    | ex c d h => rw [e2] at o; exact o.elim
    | ok v h2 => rw [e2] at o; exact fun ρ2 H2 u p2 R2 z => o ρ2 H2 u (p.trans p2) R2 z
/-- the def that catches, as a callee finds it -/
structure WordC (P : Program) (w : World) (K : PySem.W.Frag) (mg : Str → Option Value) (base : Heap) (C : Cst) : Prop where
  ex : ∃ (g : Addr) (pg : Arguments) (bg : List Stmt) (sg : Scope) (dV kV doc pm cdv ct oc : Value) (an od : Option Addr) (osl : Array (Option Value)), mg "_law_word" = some (.ref g) ∧ PySem.W.keepIn K (.ref g) = true ∧
    K.lookup g = some ⟨oc, od, .func (PySem.W.fnOf "_law_word" "_law_word" pg bg sg dV kV doc pm an cdv ct), osl⟩ ∧ PySem.W.codeIn K cdv "_law_word" = true ∧ L2.Binds K (PySem.W.fnOf "_law_word" "_law_word" pg bg sg dV kV doc pm an cdv ct) ["_law_call"] [] ∧
    FnScope ["_law_call", "error", "_law_kinds"] ["_law_call"] sg ∧ Vis sg "_law_call" ∧
    ∀ (X : Cx) (k : Nat), X.K = K → X.mg = mg → Room (k + 1) X.A → GivesG X ["_law_call", "error", "_law_kinds"] "_law_word" sg g cdv bg "_law_call" (TTword C)
theorem e_word {c Pt : Addr} {k : Nat} {f : LS → LH → Out LV} {params : Arguments} {body : Expr} {scope : Scope} {p lpos pos : Pos} (W : WordC X.prog X.w X.K X.mg X.base C) (TB : TabB X.base X.mg c Pt) (hcode : X.env.code = .ref c) (hT : LamT C Pt (X.env.qual ++ "<lambda>"))
    (hr : Room (k + 2) X.A) (L : LamS X.env.scope scope)
    (hbody : ∀ (A : Around) (outer : List Env) (s : Shared) (H : Hp) (E : XK) (g c' : Addr), Room k (A.deeper (lamEnv X scope s.heap.objs.size g c')) → TrE C E (lamCx X A outer s H E scope g c') body f)
    (hg : Gl X "_law_word" := by rfl) (hdef : defaultsOf params X.env = ([], []) := by rfl)
    (hbind : ∀ (q : Str) (cl : List (Str × Addr)) (pm cv ctv : Value), bindArgs (PySem.W.kla_fn "<lambda>" q params body scope cl pm cv ctv) ⟨[], []⟩ = pure [] := by intro _ _ _ _ _; rfl) : TrE C E X (.Call (.Name "_law_word" p) [.Lambda params body scope lpos] [] pos) (eWord f) := by
  obtain ⟨g, pg, bg, sg, dV, kV, doc, pm, cdv, ct, oc, an, od, osl, hm, hk, lk, hcg, hb, Sg, hva, hG⟩ := W.ex
  refine ⟨_, pe_lamcallG (t := fun E => tIm C E f) hg hm hk lk hcg hb Sg rfl hva (hG X k rfl rfl (hr.mono (by omega))) TB hcode hT hr L hdef hbind (fun A outer s H E g c' P' hr' => ⟨fun pins s σ H Q I h => (pe_im (hbody A outer _ _ E g c' hr')).run pins s σ H Q I h.2⟩), im_word⟩
end
/-- a def whose own code object is known -/
structure FunC (K : PySem.W.Frag) (x qual : Str) (st : Stmt) (f : Addr) (fd : FuncData) (c : Addr) : Prop where
  ex : ∃ (oc : Value) (od : Option Addr) (kV doc pm : Value) (an : Option Addr) (ct : Value) (osl : Array (Option Value)),
    fd = PySem.W.fnOf x qual (defArgs st) (defBody st) (defScope st) .none kV doc pm an (.ref c) ct ∧ K.lookup f = some ⟨oc, od, .func fd, osl⟩ ∧ PySem.W.codeIn K (.ref c) qual = true
theorem fn_okC {P : Program} {w : World} {K : PySem.W.Frag} {mg : Str → Option Value} {base : Heap} {C : Cst} {x qual : Str} {st : Stmt} {f c : Addr} {fd : FuncData} {N ps : List Str} {k : Nat} {F : LS → LH → Out LF} (Fd : FunC K x qual st f fd c) (S : FnScope N ps (defScope st))
    (hb : ∀ (A : Around) (outer : List Env) (s : Shared) (H : Hp) (E : XK), Room k (A.deeper (envOfC qual (defScope st) s.heap.objs.size f (.ref c))) → TrSs C E (cxOf (L2.CX P w) P w K mg base N qual (defScope st) f (.ref c) A outer s H E) (defBody st) F) :
    FnOk P w K mg base (L2.CX P w) (k + 1) f fd ps (spM C ps.length (mFn N.length F)) := by
  obtain ⟨oc, od, kV, doc, pm, an, ct, osl, rfl, lk, hcd⟩ := Fd.ex
  refine fn_of lk hcd S (fun vs H Q E h => h.1) fun A outer s H vs Q E hr h => ?_
  obtain ⟨t, p, i⟩ := hb A outer s H E hr
  refine ⟨t, p, ?_⟩
  obtain ⟨hl, ρ, h, ls, R, z, o⟩ := h
  refine i ρ h H _ _ _ R (start_rel z) ?_
  unfold mFn at o
  cases e : F (startL N.length ls) h with
  | no => rw [e] at o; exact o
  | ex c d h1 => rw [e] at o; exact o
  | ok fl h1 =>
    rw [e] at o
    cases fl with
    | nx l1 => exact fun ρ1 H1 p1 R1 σ1 S1 => o ρ1 H1 .non p1 R1 .non
    | rt v => exact fun ρ1 H1 p1 R1 u z1 => o ρ1 H1 u p1 R1 z1
    | bk l1 => exact o.elim
    | ct l1 => exact o.elim
end MR
set_option maxHeartbeats 4000000
/-! Mirror 24: enumerate of a tuple. -/
namespace MR
section
open PySem Sem
theorem meets_enumerate_new1B {v : Value} {o : Obj} {H : Heap → Prop} (B : Begins v o H) :
    Meets (Builtin.«enumerate.__new__» ⟨[.type "enumerate", v], []⟩) (fun _ R s => H s.heap ∧
      R (.ok (.ret (.ref (s.heap.push o).objs.size))) { s with heap := (s.heap.push o).push { cls := .type "enumerate", data := .fields #[.none, .bool false, .ref s.heap.objs.size, rawInt 0, .none, .none] } }) :=
  .of_wp fun prog w A R s h => by
    obtain ⟨hp, g, d, tk, os⟩ := s; obtain ⟨h1, h⟩ := h
    have hsub := sub_enumerate
    have q1 : ∀ {A' : Around} {E : Value → Shared → Prop} {Q : Value → Shared → Prop}, Q (.ref hp.objs.size) ⟨hp.push o, g, d, tk, os⟩ → wpAny (model prog w) A' (pyIter v) Q E ⟨hp, g, d, tk, os⟩ :=
      fun q => B.iter prog w _ _ ⟨hp, g, d, tk, os⟩ _ h1 q
    wp_walk using q1
    refine wpAny_stack_any fun st => wpAny_pure ?_
    split
    · rename_i c _ _ _ _ _
      cases (c == Value.type "enumerate")
      · wp_walk using q1
        exact ⟨_, rfl, h⟩
      · wp_walk using q1
        exact ⟨_, rfl, h⟩
    · wp_walk using q1
      exact ⟨_, rfl, h⟩
variable {prog : Program} {w : World} {A : Around} {E : Value → Shared → Prop} {s : Shared}
theorem enum_begins1 {v : Value} {o : Obj} {H : Heap → Prop} {Q : Value → Shared → Prop} (B : Begins v o H) (h1 : H s.heap)
    (h : ∀ h', IsEnum h' (s.heap.objs.size + 1) s.heap.objs.size 0 .none → h'.get? s.heap.objs.size = some o → h'.objs.size = s.heap.objs.size + 2 →
      (∀ b o, s.heap.get? b = some o → h'.get? b = some o) → Q (.ref (s.heap.objs.size + 1)) { s with heap := h' }) :
    wpAny (model prog w) A (call (.type "enumerate") [v]) Q E s := by
  refine callType_new F.called_enumerate (by decide) (F.typeCall_enumerate_1 _) (F.newCall_enumerate_1 _) (fun obj => F.args_object_init_2 obj _) F.entry_enumerate_new
    (meets_enumerate_new1B B) ⟨h1, ?_⟩
  have hz : (s.heap.push o).objs.size = s.heap.objs.size + 1 := Heap.size_push ..
  show _ ∧ _
  rw [hz]
  have he : IsEnum ((s.heap.push o).push { cls := .type "enumerate", data := .fields #[.none, .bool false, .ref s.heap.objs.size, rawInt 0, .none, .none] }) (s.heap.objs.size + 1) s.heap.objs.size 0 .none := by
    have := Heap.get?_push_size (s.heap.push o) (o := { cls := .type "enumerate", data := .fields #[.none, .bool false, .ref s.heap.objs.size, rawInt 0, .none, .none] }) rfl
    rw [hz] at this; exact this
  refine ⟨⟨_, he, rfl⟩, h _ he (Heap.get?_push_of_some _ (Heap.get?_push_size _ B.free)) (by rw [Heap.size_push, hz]) fun b o x => Heap.get?_push_of_some _ (Heap.get?_push_of_some _ x)⟩
end
open PySem PySem.Spec PyProof.Rows L2
/-- the tuple at a, each item in a new pair -/
def IteT (K : PySem.W.Frag) (a : Addr) : It :=
  ⟨fun i H => ∃ (xs : List V) (x : V), SqT K H a xs ∧ xs[i]? = some x, fun i H v H' => ∃ T x, v = .ref T ∧ H T = none ∧ H' = upd H T (.tup [.int (i : Nat), x]) ∧ ∀ xs, SqT K H a xs → xs[i]? = some x, fun i H => ∃ xs : List V, SqT K H a xs ∧ xs.length = i⟩
theorem enumT_ne {h : Heap} {e it a : Addr} {k : Int} {old : Value} {i : Nat} {its : Array Value} (he : PySem.IsEnum h e it k old) (hit : h.IsTupleIter it a i) (p : h.IsTuple a its) : a ≠ it ∧ e ≠ it ∧ e ≠ a := by
  obtain ⟨o1, e1, c1, d1⟩ := hit
  obtain ⟨o2, e2, c2, n, d2⟩ := p
  refine ⟨fun z => ?_, fun z => ?_, fun z => ?_⟩
  · rw [z, e1] at e2; cases e2; rw [d1] at d2; cases d2
  · have he : h.get? e = _ := he
    rw [z, e1] at he; cases he; injection c1 with c1; exact absurd c1 (by decide)
  · have he : h.get? e = _ := he
    rw [z, e2] at he; cases he; cases d2
theorem turn_enumT {P : Program} {w : World} {K : PySem.W.Frag} {elts : List Expr} {kk : Nat} {tpos : Pos} (a e it : Addr) :
    Turn P w K (.Tuple elts kk tpos) (IteT K a) [e, it] e (fun i h => (∃ old, IsEnum h e it ((i : Nat) : Int) old) ∧ h.IsTupleIter it a i ∧ e ≠ it) where
  mem := by simp
  obj := fun i h st b hb => by
    obtain ⟨⟨old, he⟩, ⟨o, ho, hc, hd⟩, _⟩ := st
    have e' : b = e ∨ b = it := by simpa using hb
    rcases e' with z | z
    · rw [z]; exact ⟨_, he, fun v q => nomatch q⟩
    · rw [z]; exact ⟨o, ho, fun v q => by rw [hd] at q; cases q⟩
  keep := fun i h h' st k => let ⟨⟨old, he⟩, hi, hne⟩ := st; ⟨⟨old, k e (by simp) _ he⟩, hi.at fun o q => k it (by simp) o q, hne⟩
  item := by
    intro X hP hw hK hc i pins s σ H E I hf st hg
    subst hP hw hK
    obtain ⟨⟨old, he⟩, hit, hne⟩ := st
    obtain ⟨xs, x, hq, hx⟩ := hg
    obtain ⟨its, rv, p, hz⟩ := I.tuple hq
    obtain ⟨u, hu, ru⟩ := rv.get hx
    obtain ⟨n1, n2, n3⟩ := enumT_ne he hit p
    have hel : e < s.heap.objs.size := Heap.lt_size he
    have hil : it < s.heap.objs.size := by obtain ⟨_, q, _⟩ := hit; exact Heap.lt_size q
    have hi : i < its.toArray.size := by simpa using (List.getElem?_eq_some_iff.mp hu).1
    refine wpAny_pyNext_enum_itemD (Draws.tuple (A := X.A.in1) (by exact I.ok.hd hc) it a n1 its.toArray) he ⟨hit, p⟩ hi hne (by simp [hne, n3]) fun x' h' tk hx' ho st' hT hsz hk => ?_
    obtain rfl : u = x' := by
      have : its.toArray[i]? = some x' := hx'
      rw [show its.toArray[i]? = some u by simpa using hu] at this
      exact Option.some.inj this
    have hit' := st'.1
    refine ⟨_, rfl, wpAny_letOwnedTupleGo_enum (s := { s with heap := h', toks := tk + 1 }) ho fun h'' he' sb => ?_⟩
    have hT2 : h''.get? s.heap.objs.size = some { cls := .type "tuple", data := .seq #[.int i tk, u] } := (sb.2 _ (Nat.ne_of_gt hel)).trans hT
    have new : ObjOk X.prog X.w (upd H s.heap.objs.size (.tup [.int (i : Nat), x])) h'' s.heap.objs.size (.tup [.int (i : Nat), x]) :=
      ⟨by show 2 ≤ sizeLine; decide, [.int i tk, u], .cons ⟨_, rfl⟩ (.cons ru .nil), ⟨_, hT2, rfl, _, rfl⟩⟩
    have I1 : Inv X pins σ (upd H s.heap.objs.size (.tup [.int (i : Nat), x])) { s with heap := h'', toks := tk + 1 } :=
      I.turnedNew (ch := [e, it]) (fun b ob hb q => (sb.2 b (fun z => hb (by simp [z]))).trans (hk b ob (fun z => hb (by simp [z])) (fun z => hb (by simp [z])) q)) hf (Nat.le_refl _) new
    refine ⟨.ref s.heap.objs.size, _, I1, rfl, ⟨_, x, rfl, I.hok.fresh (Nat.le_refl _), rfl, fun ys hy => by rw [I.tuple_inj hy hq]; exact hx⟩, ⟨⟨u, ?_⟩, hit'.at fun o q => (sb.2 it (Ne.symm hne)).trans q, hne⟩, fun b hb => ?_⟩
    · have e1 : ((i + 1 : Nat) : Int) = (i : Int) + 1 := by omega
      rw [e1]; exact he'
    · have hb' : b < s.heap.objs.size := by
        have e' : b = e ∨ b = it := by simpa using hb
        rcases e' with z | z
        · rw [z]; exact hel
        · rw [z]; exact hil
      rw [upd_ne (Nat.ne_of_lt hb')]
      exact (hf b hb).1
  done := by
    intro X hP hw hK hc i pins s σ H E I hf st hg
    subst hP hw hK
    obtain ⟨⟨old, he⟩, hit, hne⟩ := st
    obtain ⟨xs, hq, hx⟩ := hg
    obtain ⟨its, rv, p, hz⟩ := I.tuple hq
    obtain ⟨n1, n2, n3⟩ := enumT_ne he hit p
    obtain ⟨f0, f1, f2, f3, f4, f5⟩ := hf it (by simp)
    have hl := rv.length
    have ei : i = its.toArray.size := by simp; omega
    subst ei
    exact wpAny_pyNext_enum_endD (Draws.tuple (A := X.A.in1) (by exact I.ok.hd hc) it a n1 its.toArray) he ⟨hit, p⟩ fun h' eb => ⟨rfl, I.turned (t' := s.toks) (fun b o hb q => eb b o hb q) f0 f1 f3 f4 f5⟩
  self := fun A i s Q E st h => let ⟨⟨_, he⟩, _⟩ := st; wpAny_pyIter_enum he h
def iEnumT (K : PySem.W.Frag) (ta : TA) : TI := fun σ H R => ta σ H fun vs H1 => ∃ a xs, vs = [.ref a] ∧ SqT K H1 a xs ∧ R (IteT K a) H1
theorem pi_enumT {X : Cx} {e : Expr} {ta : TA} {p pos tpos : Pos} {elts : List Expr} {kk : Nat} (hg : Gl X "enumerate") (hm : X.mg "enumerate" = none) (ha : PA X [e] ta) (hs : starEach [e] X.env = [(false, eval e X.env)] := by rfl) :
    PI X (.Tuple elts kk tpos) (.Call (.Name "enumerate" p) [e] [] pos) (iEnumT X.K ta) := by
  refine ⟨fun pins s σ H R I h => ?_⟩
  refine Call_ (ld_blt I hg hm boot_enumerate (PyProof.Rows.callWith_type1 (thn (ha.run pos pins s σ H _ I h) fun us s1 ⟨vs, H1, I1, r1, q1⟩ => ?_) hs rfl))
  obtain ⟨a, xs, ex, hq, q⟩ := q1
  subst ex
  cases r1 with
  | cons r rr =>
    cases rr
    cases r
    obtain ⟨its, rv, p', hz⟩ := I1.tuple hq
    refine enum_begins1 (begins_tuple a its.toArray) p' fun h' he hi hsz hk => wpAny_pyIter_enum he ?_
    have hit : h'.IsTupleIter s1.heap.objs.size a 0 := ⟨_, hi, rfl, rfl⟩
    have I2 : Inv X pins σ H1 { s1 with heap := h' } := I1.kept (t' := s1.toks) hk
    refine ⟨s1.heap.objs.size + 1, [s1.heap.objs.size + 1, s1.heap.objs.size], _, _, H1, rfl, I2, turn_enumT a (s1.heap.objs.size + 1) s1.heap.objs.size, ⟨⟨.none, he⟩, hit, Nat.succ_ne_self _⟩, fun b hb => ?_, q⟩
    have e' : b = s1.heap.objs.size + 1 ∨ b = s1.heap.objs.size := by simpa using hb
    have hle : s1.heap.objs.size ≤ b := by
      rcases e' with z | z
      · rw [z]; exact Nat.le_add_right _ _
      · rw [z]; exact Nat.le_refl _
    exact I1.fpOk hle (I1.hok.fresh hle)
def nxE (o : Option (List LV)) (i : Nat) : NR := match o with
  | some xs => match xs[i]? with
    | some v => .newT [.int (i : Nat), v]
    | none => match Nat.beq xs.length i with
      | true => .stop
      | false => .no
  | none => .no
def iEnumM (fs : LS → LH → Out (List LV)) : LS → LH → Out Nxt := fun l h => (fs l h).bind fun vs h1 => match vs with
  | [v] => match tupL v h1 with
    | some _ => .ok (fun i h => nxE (tupL v h) i) h1
    | none => .no
  | _ => .no
section
variable {C : Cst} {E : XK} {X : Cx} {e : Expr} {fs : LS → LH → Out (List LV)} {p pos tpos : Pos}
theorem i_enumT {elts : List Expr} {kk : Nat} (hm : X.mg "enumerate" = none) (ha : TrA C E X [e] fs) (hg : Gl X "enumerate" := by rfl) (hs : starEach [e] X.env = [(false, eval e X.env)] := by rfl) :
    TrI C E X (.Tuple elts kk tpos) (.Call (.Name "enumerate" p) [e] [] pos) (iEnumM fs) := by
  obtain ⟨t, q, i⟩ := ha
  refine ⟨_, pi_enumT hg hm q hs, fun ρ h H l σ R Rl S o => i ρ h H l σ _ Rl S (o.bind fun vs h1 ρ1 H1 us p1 R1 z o1 => ?_)⟩
  split at o1
  · rename_i x
    obtain ⟨u, rfl, z1⟩ := z.one_
    cases e1 : tupL x h1 with
    | none => rw [e1] at o1; exact o1.elim
    | some xs =>
      rw [e1] at o1
      obtain ⟨a, vs, _, _, rfl, zs, hh⟩ := tupL_ok R1 z1 e1
      refine ⟨a, vs, rfl, SqT.of hh, o1.here R1 fun ρ' h' H' i p' R' => ?_⟩
      show match nxE (tupL x h') i with
        | .stop => _ | .item v => _ | .newT vs => _ | .no => True
      unfold nxE
      cases e' : tupL x h' with
      | none => exact trivial
      | some ys =>
        obtain ⟨b, us, hb, _, eu, zu, hu⟩ := tupL_ok R' (z1.mono p') e'
        cases eu
        dsimp only
        cases q : ys[i]? with
        | none =>
          dsimp only
          cases q2 : Nat.beq ys.length i with
          | true => exact ⟨us, SqT.of hu, by rw [← zu.length]; exact Nat.eq_of_beq_eq_true q2⟩
          | false => exact trivial
        | some w =>
          obtain ⟨w', hw, zw⟩ := zu.nth_ q
          refine ⟨⟨us, w', SqT.of hu, hw⟩, fun y H2 yy => ?_⟩
          obtain ⟨T, y1, ey, hn, hH, g1⟩ := yy
          have g1 := g1 _ (SqT.of hu)
          rw [hw] at g1; cases g1
          exact ⟨T, _, ey, hn, hH, .cons (.int _) (.cons zw .nil)⟩
  · exact o1.elim
end
end MR
set_option maxHeartbeats 4000000
/-! Mirror 25: zip of three lists. -/
namespace MR
open PySem PySem.Spec PyProof.Rows L2
theorem ad1 {a N : Nat} (h : a < N) (k : Nat) : a ≠ N + k := by omega
theorem ad2 (N : Nat) {i j : Nat} (h : i ≠ j) : N + i ≠ N + j := by omega
theorem ad3 (N : Nat) {i : Nat} (h : i ≠ 0) : N + i ≠ N := by omega
theorem ad4 (N : Nat) {i : Nat} (h : i ≠ 0) : N ≠ N + i := by omega
theorem ad5 {c N M : Nat} (h : N + 5 < M) (k : c = N + 5 ∨ c = N + 3 ∨ c = N + 4 ∨ c = N ∨ c = N + 1 ∨ c = N + 2) : c < M := by omega
theorem ad6 {c N : Nat} (k : c = N + 5 ∨ c = N + 3 ∨ c = N + 4 ∨ c = N ∨ c = N + 1 ∨ c = N + 2) : N ≤ c := by omega
def Itz3 (K : PySem.W.Frag) (a b c : Addr) : It :=
  ⟨fun i H => ∃ (xs ys zs : List V) (x y z : V), SqL K H a xs ∧ SqL K H b ys ∧ SqL K H c zs ∧ xs[i]? = some x ∧ ys[i]? = some y ∧ zs[i]? = some z,
    fun i H v H' => ∃ T x y z, v = .ref T ∧ H T = none ∧ H' = upd H T (.tup [x, y, z]) ∧ (∀ xs, SqL K H a xs → xs[i]? = some x) ∧ (∀ ys, SqL K H b ys → ys[i]? = some y) ∧ ∀ zs, SqL K H c zs → zs[i]? = some z,
    fun i H => ∃ xs ys zs : List V, SqL K H a xs ∧ SqL K H b ys ∧ SqL K H c zs ∧ i ≤ xs.length ∧ i ≤ ys.length ∧ i ≤ zs.length ∧ (i = xs.length ∨ i = ys.length ∨ i = zs.length)⟩
theorem turn_zip3 {P : Program} {w : World} {K : PySem.W.Frag} {elts : List Expr} {kk : Nat} {tpos : Pos} {a b c N : Addr} (la : a < N) (lb : b < N) (lc : c < N) :
    Turn P w K (.Tuple elts kk tpos) (Itz3 K a b c) [N + 5, N + 3, N + 4, N, N + 1, N + 2] (N + 5) (fun i h => IsZip h (N + 5) (N + 3) (N + 4) .none ∧ IsTupOf3 h (N + 3) (.ref N) (.ref (N + 1)) (.ref (N + 2)) ∧ (∃ x y z, IsTupOf3 h (N + 4) x y z) ∧ h.IsListIter N a i ∧ h.IsListIter (N + 1) b i ∧ h.IsListIter (N + 2) c i) where
  mem := by simp
  obj := fun i h st c hc => by
    obtain ⟨hz, hTI, ⟨x, y, z, hTO⟩, ⟨o1, e1, _, d1⟩, ⟨o2, e2, _, d2⟩, ⟨o3, e3, _, d3⟩⟩ := st
    simp only [List.mem_cons, List.not_mem_nil, or_false] at hc
    rcases hc with q | q | q | q | q | q
    · rw [q]; exact ⟨_, hz, fun v q => nomatch q⟩
    · rw [q]; exact ⟨_, hTI, fun v q => nomatch q⟩
    · rw [q]; exact ⟨_, hTO, fun v q => nomatch q⟩
    · rw [q]; exact ⟨o1, e1, fun v q => by rw [d1] at q; cases q⟩
    · rw [q]; exact ⟨o2, e2, fun v q => by rw [d2] at q; cases q⟩
    · rw [q]; exact ⟨o3, e3, fun v q => by rw [d3] at q; cases q⟩
  keep := fun i h h' st k => by
    obtain ⟨hz, hTI, ⟨x, y, z, hTO⟩, h1, h2, h3⟩ := st
    exact ⟨k (N + 5) (by simp) _ hz, k (N + 3) (by simp) _ hTI, ⟨x, y, z, k (N + 4) (by simp) _ hTO⟩, h1.at fun o q => k N (by simp) o q, h2.at fun o q => k (N + 1) (by simp) o q, h3.at fun o q => k (N + 2) (by simp) o q⟩
  item := by
    intro X hP hw hK hc i pins s σ H E I hf st hg
    subst hP hw hK
    obtain ⟨hz, hTI, ⟨x0, y0, z0, hTO⟩, h1, h2, h3⟩ := st
    obtain ⟨xs, ys, zs, x, y, z, hqx, hqy, hqz, hx, hy, hzz⟩ := hg
    obtain ⟨its, rv, p, _⟩ := I.list hqx
    obtain ⟨its2, rv2, p2, _⟩ := I.list hqy
    obtain ⟨its3, rv3, p3, _⟩ := I.list hqz
    obtain ⟨u, hu, ru⟩ := rv.get hx
    obtain ⟨u2, hu2, ru2⟩ := rv2.get hy
    obtain ⟨u3, hu3, ru3⟩ := rv3.get hzz
    have hzl : N + 5 < s.heap.objs.size := Heap.lt_size hz
    have hh : X.A.in1.handled = none := by exact I.ok.hd hc
    have S := zip_sep3 (N := N) (fp1 := [a]) (fp2 := [b]) (fp3 := [c]) (by simpa using la) (by simpa using lb) (by simpa using lc)
    have g : ∀ {its : List Value} {u : Value}, its[i]? = some u → i < its.toArray.size := fun e => by simpa using (List.getElem?_eq_some_iff.mp e).1
    refine wpAny_pyNext_zipD3_item S (Draws.list hh N a (Nat.ne_of_lt la) its.toArray) (Draws.list hh (N + 1) b (ad1 lb 1) its2.toArray) (Draws.list hh (N + 2) c (ad1 lc 2) its3.toArray) hz hTI hTO ⟨h1, p.isList⟩ ⟨h2, p2.isList⟩ ⟨h3, p3.isList⟩ (g hu) (g hu2) (g hu3)
      fun v1 v2 v3 h' tk w1 w2 w3 z' TO' s1' s2' s3' hT hsz hk => ?_
    have eqv : ∀ {its : List Value} {u v : Value}, its[i]? = some u → its.toArray[i]? = some v → u = v := fun {its u v} e1 e2 => by
      rw [show its.toArray[i]? = some u by simpa using e1] at e2
      exact Option.some.inj e2
    obtain rfl := eqv hu w1
    obtain rfl := eqv hu2 w2
    obtain rfl := eqv hu3 w3
    refine ⟨_, rfl, wpAny_letOwnedTupleGo_zip (s := { s with heap := h', toks := tk }) z' fun h'' z'' sb => ?_⟩
    have hT2 : h''.get? s.heap.objs.size = some { cls := .type "tuple", data := .seq #[u, u2, u3] } := (sb.2 _ (Nat.ne_of_gt hzl)).trans hT
    have new : ObjOk X.prog X.w (upd H s.heap.objs.size (.tup [x, y, z])) h'' s.heap.objs.size (.tup [x, y, z]) :=
      ⟨by show 3 ≤ sizeLine; decide, [u, u2, u3], .cons ru (.cons ru2 (.cons ru3 .nil)), ⟨_, hT2, rfl, _, rfl⟩⟩
    have I1 : Inv X pins σ (upd H s.heap.objs.size (.tup [x, y, z])) { s with heap := h'', toks := tk } :=
      I.turnedNew (t' := tk) (ch := [N + 5, N + 3, N + 4, N, N + 1, N + 2]) (fun c o hb q => (sb.2 c (fun q' => hb (by simp [q']))).trans (hk c o (fun q' => hb (by simp [q'])) (fun q' => hb (by simp [q'])) (fun q' => hb (by simp [q'])) (fun q' => hb (by simp [q'])) (fun q' => hb (by simp [q'])) q)) hf (Nat.le_refl _) new
    refine ⟨.ref s.heap.objs.size, _, I1, rfl, ⟨_, x, y, z, rfl, I.hok.fresh (Nat.le_refl _), rfl, fun l hl => by rw [I.list_inj hl hqx]; exact hx, fun l hl => by rw [I.list_inj hl hqy]; exact hy, fun l hl => by rw [I.list_inj hl hqz]; exact hzz⟩, ⟨z'', ?_, ⟨u, u2, u3, ?_⟩, ?_, ?_, ?_⟩, fun c hcm => ?_⟩
    · exact (sb.2 _ (ad2 N (by decide))).trans (hk _ _ (ad2 N (by decide)) (ad2 N (by decide)) (ad3 N (by decide)) (ad2 N (by decide)) (ad2 N (by decide)) hTI)
    · exact (sb.2 _ (ad2 N (by decide))).trans TO'
    · exact s1'.1.at fun o q => (sb.2 _ (ad4 N (by decide))).trans q
    · exact s2'.1.at fun o q => (sb.2 _ (ad2 N (by decide))).trans q
    · exact s3'.1.at fun o q => (sb.2 _ (ad2 N (by decide))).trans q
    · have hlt : c < s.heap.objs.size := by
        simp only [List.mem_cons, List.not_mem_nil, or_false] at hcm
        exact ad5 hzl hcm
      rw [upd_ne (Nat.ne_of_lt hlt)]
      exact (hf c hcm).1
  done := by
    intro X hP hw hK hc i pins s σ H E I hf st hg
    subst hP hw hK
    obtain ⟨hz, hTI, ⟨x0, y0, z0, hTO⟩, h1, h2, h3⟩ := st
    obtain ⟨xs, ys, zs, hqx, hqy, hqz, l1, l2, l3, hend⟩ := hg
    obtain ⟨its, rv, p, _⟩ := I.list hqx
    obtain ⟨its2, rv2, p2, _⟩ := I.list hqy
    obtain ⟨its3, rv3, p3, _⟩ := I.list hqz
    have k1 := rv.length
    have k2 := rv2.length
    have k3 := rv3.length
    have hh : X.A.in1.handled = none := by exact I.ok.hd hc
    have S := zip_sep3 (N := N) (fp1 := [a]) (fp2 := [b]) (fp3 := [c]) (by simpa using la) (by simpa using lb) (by simpa using lc)
    refine wpAny_pyNext_zipD3_end S (Draws.list hh N a (Nat.ne_of_lt la) its.toArray) (Draws.list hh (N + 1) b (ad1 lb 1) its2.toArray) (Draws.list hh (N + 2) c (ad1 lc 2) its3.toArray) hz hTI hTO ⟨h1, p.isList⟩ ⟨h2, p2.isList⟩ ⟨h3, p3.isList⟩ (by simp; omega) (by simp; omega) (by simp; omega) (by simp; omega)
      fun h' tk hk => ⟨rfl, I.turnedL (t' := tk) (ch := [N + 5, N + 3, N + 4, N, N + 1, N + 2]) (fun c o hb q =>
        hk c o (fun q' => hb (by simp [q'])) (fun q' => hb (by simp [q'])) (fun q' => hb (by simp [q'])) (fun q' => hb (by simp [q'])) (fun q' => hb (by simp [q'])) q) hf⟩
  self := fun A i s Q E st h => wpAny_pyIter_zip st.1 h
def iZip3 (K : PySem.W.Frag) (ta : TA) : TI := fun σ H R => ta σ H fun vs H1 => ∃ a b c xs ys zs, vs = [.ref a, .ref b, .ref c] ∧ SqL K H1 a xs ∧ SqL K H1 b ys ∧ SqL K H1 c zs ∧ R (Itz3 K a b c) H1
theorem pi_zip3 {X : Cx} {e e2 e3 : Expr} {ta : TA} {p pos tpos : Pos} {elts : List Expr} {kk : Nat} (hg : Gl X "zip") (hm : X.mg "zip" = none) (ha : PA X [e, e2, e3] ta)
    (hs : starEach [e, e2, e3] X.env = (false, eval e X.env) :: starEach [e2, e3] X.env := by rfl) (hpl : (backTo pos (starEach [e2, e3] X.env)).any (·.1) = false := by rfl) :
    PI X (.Tuple elts kk tpos) (.Call (.Name "zip" p) [e, e2, e3] [] pos) (iZip3 X.K ta) := by
  refine ⟨fun pins s σ H R I h => ?_⟩
  refine Call_ (ld_blt I hg hm PyProof.Rows.boot_zip (PyProof.Rows.callWith_type1 (thn (ha.run pos pins s σ H _ I h) fun us s1 ⟨vs, H1, I1, r1, q1⟩ => ?_) hs hpl))
  obtain ⟨a, b, c, xs, ys, zs, ex, hqx, hqy, hqz, q⟩ := q1
  subst ex
  cases r1 with
  | cons r rr =>
    cases rr with
    | cons r' rr =>
      cases rr with
      | cons r'' rr =>
        cases rr
        cases r
        cases r'
        cases r''
        obtain ⟨its, rv, p1, _⟩ := I1.list hqx
        obtain ⟨its2, rv2, p2, _⟩ := I1.list hqy
        obtain ⟨its3, rv3, p3, _⟩ := I1.list hqz
        refine zip_begins3 (begins_list a its.toArray) (begins_list b its2.toArray) (begins_list c its3.toArray) p1.isList p2.isList p3.isList fun h' hz hTI hTO g1 g2 g3 hsz hk => wpAny_pyIter_zip hz ?_
        have I2 : Inv X pins σ H1 { s1 with heap := h' } := I1.kept (t' := s1.toks) hk
        refine ⟨s1.heap.objs.size + 5, [s1.heap.objs.size + 5, s1.heap.objs.size + 3, s1.heap.objs.size + 4, s1.heap.objs.size, s1.heap.objs.size + 1, s1.heap.objs.size + 2], _, _, H1, rfl, I2, turn_zip3 p1.lt p2.lt p3.lt, ⟨hz, hTI, ⟨_, _, _, hTO⟩, ⟨_, g1, rfl, rfl⟩, ⟨_, g2, rfl, rfl⟩, ⟨_, g3, rfl, rfl⟩⟩, fun c hcm => ?_, q⟩
        have hle : s1.heap.objs.size ≤ c := by
          simp only [List.mem_cons, List.not_mem_nil, or_false] at hcm
          exact ad6 hcm
        exact I1.fpOk hle (I1.hok.fresh hle)
def nxZ3 (o1 o2 o3 : Option (List LV)) (i : Nat) : NR := match o1, o2, o3 with
  | some xs, some ys, some zs => match xs[i]?, ys[i]?, zs[i]? with
    | some x, some y, some z => .newT [x, y, z]
    | _, _, _ => match Nat.ble i xs.length && Nat.ble i ys.length && Nat.ble i zs.length && (Nat.beq i xs.length || Nat.beq i ys.length || Nat.beq i zs.length) with
      | true => .stop
      | false => .no
  | _, _, _ => .no
def iZip3M (fs : LS → LH → Out (List LV)) : LS → LH → Out Nxt := fun l h => (fs l h).bind fun vs h1 => match vs with
  | [x, y, z] => match lstL x h1, lstL y h1, lstL z h1 with
    | some _, some _, some _ => .ok (fun i h => nxZ3 (lstL x h) (lstL y h) (lstL z h) i) h1
    | _, _, _ => .no
  | _ => .no
section
variable {C : Cst} {E : XK} {X : Cx} {e e2 e3 : Expr} {fs : LS → LH → Out (List LV)} {p pos tpos : Pos}
theorem i_zip3 {elts : List Expr} {kk : Nat} (hm : X.mg "zip" = none) (ha : TrA C E X [e, e2, e3] fs) (hg : Gl X "zip" := by rfl) (hs : starEach [e, e2, e3] X.env = (false, eval e X.env) :: starEach [e2, e3] X.env := by rfl) (hpl : (backTo pos (starEach [e2, e3] X.env)).any (·.1) = false := by rfl) :
    TrI C E X (.Tuple elts kk tpos) (.Call (.Name "zip" p) [e, e2, e3] [] pos) (iZip3M fs) := by
  obtain ⟨t, q, i⟩ := ha
  refine ⟨_, pi_zip3 hg hm q hs hpl, fun ρ h H l σ R Rl S o => i ρ h H l σ _ Rl S (o.bind fun vs h1 ρ1 H1 us p1 R1 z o1 => ?_)⟩
  split at o1
  · rename_i x y z'
    obtain ⟨u, v, w, rfl, z1, z2, z3⟩ := z.three_
    cases e1 : lstL x h1 with
    | none => rw [e1] at o1; exact o1.elim
    | some xs =>
      cases e2 : lstL y h1 with
      | none => rw [e1, e2] at o1; exact o1.elim
      | some ys =>
        cases e3 : lstL z' h1 with
        | none => rw [e1, e2, e3] at o1; exact o1.elim
        | some zs =>
          rw [e1, e2, e3] at o1
          dsimp only at o1
          obtain ⟨a, vs, _, _, rfl, zs1, hh⟩ := lstL_ok R1 z1 e1
          obtain ⟨b, ws, _, _, rfl, zt, hk⟩ := lstL_ok R1 z2 e2
          obtain ⟨c, ks, _, _, rfl, zk, hl⟩ := lstL_ok R1 z3 e3
          refine ⟨a, b, c, vs, ws, ks, rfl, SqL.of hh, SqL.of hk, SqL.of hl, o1.here R1 fun ρ' h' H' i p' R' => ?_⟩
          show match nxZ3 (lstL x h') (lstL y h') (lstL z' h') i with
            | .stop => _ | .item v => _ | .newT vs => _ | .no => True
          cases e1' : lstL x h' with
          | none => exact trivial
          | some xs' =>
            cases e2' : lstL y h' with
            | none => exact trivial
            | some ys' =>
              cases e3' : lstL z' h' with
              | none => exact trivial
              | some zs' =>
                obtain ⟨_, vs', _, _, q1, y1, hh'⟩ := lstL_ok R' (z1.mono p') e1'
                obtain ⟨_, ws', _, _, q2, y2, hk'⟩ := lstL_ok R' (z2.mono p') e2'
                obtain ⟨_, ks', _, _, q3, y3, hl'⟩ := lstL_ok R' (z3.mono p') e3'
                cases q1; cases q2; cases q3
                have k1 := y1.length
                have k2 := y2.length
                have k3 := y3.length
                unfold nxZ3
                dsimp only
                split
                · rename_i heq
                  split at heq
                  · cases heq
                  · split at heq
                    · rename_i hb
                      simp only [Bool.and_eq_true, Bool.or_eq_true] at hb
                      obtain ⟨⟨⟨b1, b2⟩, b3⟩, b4⟩ := hb
                      have b1 := Nat.le_of_ble_eq_true b1
                      have b2 := Nat.le_of_ble_eq_true b2
                      have b3 := Nat.le_of_ble_eq_true b3
                      have b4 : i = xs'.length ∨ i = ys'.length ∨ i = zs'.length := by
                        rcases b4 with (b | b) | b
                        · exact .inl (Nat.eq_of_beq_eq_true b)
                        · exact .inr (.inl (Nat.eq_of_beq_eq_true b))
                        · exact .inr (.inr (Nat.eq_of_beq_eq_true b))
                      exact ⟨vs', ws', ks', SqL.of hh', SqL.of hk', SqL.of hl', by omega, by omega, by omega, by omega⟩
                    · cases heq
                · rename_i heq
                  split at heq
                  · cases heq
                  · split at heq <;> cases heq
                · rename_i heq
                  split at heq
                  · rename_i x y z kx ky kz
                    cases heq
                    obtain ⟨p1', hp, zp⟩ := y1.nth_ kx
                    obtain ⟨q1', hq, zq⟩ := y2.nth_ ky
                    obtain ⟨r1', hr, zr⟩ := y3.nth_ kz
                    refine ⟨⟨vs', ws', ks', p1', q1', r1', SqL.of hh', SqL.of hk', SqL.of hl', hp, hq, hr⟩, fun x H2 yy => ?_⟩
                    obtain ⟨T, x1, y1, w1, ex, hn, hH, g1, g2, g3⟩ := yy
                    have g1 := g1 _ (SqL.of hh')
                    have g2 := g2 _ (SqL.of hk')
                    have g3 := g3 _ (SqL.of hl')
                    rw [hp] at g1; rw [hq] at g2; rw [hr] at g3
                    cases g1; cases g2; cases g3
                    exact ⟨T, _, ex, hn, hH, .cons zp (.cons zq (.cons zr .nil))⟩
                  · split at heq <;> cases heq
                · exact trivial
  · exact o1.elim
end
end MR
set_option maxHeartbeats 4000000
/-! Mirror 26: != of instances by an own __eq__; len of an instance. -/
namespace MR
section
open PySem PySem.W PySem.Spec PyProof.Rows PySem.Calls Builtin
variable {prog : Program} {w : World} {A : Around} {E : Value → Shared → Prop} {s : Shared} {K : Frag} {x y C L f : Addr} {h₀ : Heap} {m : Str → Option Value} {ox : Obj} {od : Option Obj}
theorem slot_ne : Slot "object" "__ne__" "object.__ne__" := Slot.of (T := "object") (name := "__ne__") (owner := "object") (n := "__ne__") (by rw [typeLookup_type, builtinLookup_eq_fast]; kernel_rfl) (by decide +kernel) (by decide +kernel) (by decide +kernel)
    (.inl (by decide +kernel)) (by rw [isSubtype_type]; kernel_rfl)
theorem ifBound_B {M : Model} {name : Str} {id : String} {args : List Value} {Q : Option Value → Shared → Prop} (X : K.In s.heap) (I : InstAt s.heap x ox C od) (hs : findIn K (.ref C) name = some (some (.builtin id)))
    (hb : ∀ self, bindSpecial (.builtin id) self = pure (.builtin id, [self])) (h : wpAny M A (call (.builtin id) (.ref x :: args)) (fun v => Q (some v)) E s) : wpAny M A (callSpecialIfBound? (.ref x) name args) Q E s := by
  simp only [callSpecialIfBound?, bindSpecialIfBound?]
  refine wpAny_holding (wpAny_bind (wpAny_bind (wpAny_bind (I.type.here ((looks_findIn X hs).here ?_)))))
  refine wpAny_bind (wpAny_askSetting (wpAny_ite ?_))
  have fin : wpAny M A (call (.builtin id) ([.ref x] ++ args) >>= fun v => pure (some v)) Q E s := wpAny_bind (wpAny_mono h (fun v s' h' => wpAny_pure h') fun _ _ h' => h')
  split
  · exact wpAny_bind ((Looks.of_pure (hb _)).here (wpAny_pure (by exact fin)))
  · exact wpAny_tryCatch (wpAny_bind ((Looks.of_pure (hb _)).here (wpAny_pure (by exact fin))))
theorem ne_K0 {op : CmpOp} {tb b : Value} {Q : Value → Shared → Prop} (hop : op = .NotEq) (hu : A.units < cLine) (hu1 : A.in1.units < cLine) (X : K.In s.heap) (I : InstAt s.heap x ox C od) (hm : mroIn K C (.type "object") = some true) (hb : Looks (model prog w) s.heap (typeOf b) tb) (hn : notFirst K C tb = true)
    (hne : findIn K (.ref C) "__ne__" = some (some (.builtin "object.__ne__"))) (hs : findIn K (.ref C) "__eq__" = some (some (.ref f))) (hf : isFn K (.ref f) = true)
    (h : wpAny (model prog w) A.in1 (call (.ref f) [.ref x, b]) (fun v s' => ∃ r, v = .bool r ∧ Q (.bool (!r)) s') E s) : wpAny (model prog w) A (richCompare op (.ref x) b) Q E s := by
  subst hop
  have one : wpAny (model prog w) A (tryCompare (.ref x) (cmpInfo .NotEq).2.1 b) (fun r s' => ∃ v, r = some v ∧ Q v s') E s := by
    unfold tryCompare
    refine wpAny_bind (ifBound_B X I hne slot_ne.bind (wpAny_call (codeAny_call_builtin slot_ne.plain F.cmpEntry_ne (check_slot (i := "object.__ne__") (owner := "object") (n := "__ne__") (by decide +kernel) (by decide +kernel) (I.type.andThen (looks_mroIn X hm)) (F.cmpArgs_ne _ _) ?_))))
    unfold Builtin.«object.__ne__»
    refine wpAny_bind (m := slotArgs "__ne__" 1 _) (wpAny_pure ?_)
    refine wpAny_bind (m := cRoomFor _ _) (wpAny_cRoomFor hu1 ?_)
    refine wpAny_bind (m := callSpecialIfBound? (.ref x) (Str.ofString "__eq__") _) (ifBound_K X I hs hf (wpAny_mono h (fun v s' hv => ?_) fun _ _ e => e))
    obtain ⟨r, rfl, hq⟩ := hv
    show wpAny _ _ (truthy (.bool r) >>= fun t => ret (.bool (!t))) _ _ _
    refine wpAny_bind (wpAny_truthy_bool ?_)
    refine wpAny_pure ?_
    exact wpAny_pure ⟨_, rfl, hq⟩
  unfold richCompare
  simp only [oneThing_ref]
  refine wpAny_holding (wpAny_bind (wpAny_cRoomFor hu ?_))
  refine wpAny_bind (I.type.here (wpAny_bind (hb.here ?_)))
  split
  · rename_i q
    have e : subIn K tb (.ref C) = some false := by
      rcases Bool.or_eq_true_iff.mp hn with e | e
      · rw [beq_iff_eq.mp e] at q; simp at q
      · exact beq_iff_eq.mp e
    refine wpAny_bind ((looks_subIn X e).here ?_)
    simp only [Bool.false_eq_true, if_false]
    refine wpAny_bind (wpAny_mono one (fun r s' z => ?_) fun _ _ e => e)
    obtain ⟨v, rfl, hq⟩ := z
    exact wpAny_pure hq
  · refine wpAny_bind (wpAny_pure ?_)
    simp only [Bool.false_eq_true, if_false]
    refine wpAny_bind (wpAny_mono one (fun r s' z => ?_) fun _ _ e => e)
    obtain ⟨v, rfl, hq⟩ := z
    exact wpAny_pure hq
end
open PySem PySem.Spec PyProof.Rows L2
/-- x != y, x an instance of the class at C with an own __eq__ at g and no __ne__ -/
def rOwnNe (K : PySem.W.Frag) (C : Addr) (sp : Sp) (E : XK) : R2 := fun x y H Q => ∃ a dx vs b C' dy ws, x = .ref a ∧ y = .ref b ∧ SlX.Slt H a C dx vs ∧ SlX.Slt H b C' dy ws ∧ PySem.W.notFirst K C (.ref C') = true ∧ sp [x, y] H (fun v H' => ∃ r, v = .bl r ∧ Q (.bl (!r)) H') E
structure NeC (K : PySem.W.Frag) (C : Addr) : Prop where
  ne : PySem.W.findIn K (.ref C) "__ne__" = some (some (.builtin "object.__ne__"))
  mo : PySem.W.mroIn K C (.type "object") = some true
section
variable {X : Cx} {CX : CXT} {g C : Addr} {n : Nat} {sp : Sp} {E : XK}
theorem op_ownNe (N : NeC X.K C) (hs : PySem.W.findIn X.K (.ref C) "__eq__" = some (some (.ref g))) (hf : PySem.W.isFn X.K (.ref g) = true) (F : FnR X.prog X.w X.K X.mg X.base CX n g sp)
    (hr : Room (n + 1) X.A) (hx : Passes CX X E) : OpR X (compareOp .NotEq) (rOwnNe X.K C sp E) := by
  intro pins s σ H x y v u Q I rx ry h
  obtain ⟨a, dx, vs, b, C', dy, ws, rfl, rfl, ha, hb, hn, q⟩ := h
  cases (show v = Value.ref a from rx)
  cases (show u = Value.ref b from ry)
  obtain ⟨sl, od, _, J, _⟩ := SlX.slt_inst I ha
  obtain ⟨sl', od', _, J', _⟩ := SlX.slt_inst I hb
  show wpAny _ _ (richCompare .NotEq _ _) _ _ _
  refine ne_K0 (tb := .ref C') rfl hr.units0 hr.in1.units0 I.kIn J N.mo J'.type hn N.ne hs hf ?_
  refine wpAny_mono (wpAny_call (SlX.run_at (us := [.ref a, .ref b]) (ws := [.ref a, .ref b]) F hr.in1 I.env0.in1 hx I (.cons rfl (.cons rfl .nil)) q)) (fun w s' z => ?_) fun _ _ x => x
  obtain ⟨z', H', I', rz, r, ez, qz⟩ := z
  subst ez
  cases rz
  exact ⟨r, rfl, .bl (!r), H', I', rfl, qz⟩
def rOwnLen (C : Addr) (sp : Sp) (E : XK) : List V → Hp → VK → Prop := fun xs H Q => ∃ a dx vs, xs = [V.ref a] ∧ SlX.Slt H a C dx vs ∧ sp [.ref a] H (fun z H' => ∃ i, z = .int i ∧ 0 ≤ i ∧ i < 2 ^ 63 ∧ Q z H') E
theorem call_ownLen (hs : PySem.W.findIn X.K (.ref C) "__len__" = some (some (.ref g))) (hf : PySem.W.isFn X.K (.ref g) = true) (F : FnR X.prog X.w X.K X.mg X.base CX n g sp) (hr : Room (n + 1) X.A) (hx : Passes CX X E) : CallR X (.builtin "len") (rOwnLen C sp E) := by
  intro pins s σ H xs us Q I r h
  obtain ⟨a, dx, vs, rfl, hsl, q⟩ := h
  obtain ⟨u, rfl, ru⟩ := r.one
  cases (show u = Value.ref a from ru)
  obtain ⟨sl, od, _, J, _⟩ := SlX.slt_inst I hsl
  obtain ⟨m, hF⟩ := I.fr
  refine PySem.W.len_K hF I.ok.mod.kin J hs hf (wpAny_mono (wpAny_call (SlX.run_at (us := [.ref a]) (ws := [.ref a]) F hr.in1 I.env0.in1 hx I (.cons rfl .nil) q)) (fun w s' z => ?_) fun _ _ x => x)
  obtain ⟨z', H', I', rz, i, ei, h0, h1, qz⟩ := z
  subst ei
  obtain ⟨t, e⟩ := (show ∃ t, w = Value.int i t from rz)
  cases e
  exact ⟨⟨h0, h1⟩, .int i, H', I'.tok _, ⟨_, rfl⟩, qz⟩
end
section
variable {C : Cst} {E : XK} {X : Cx} {cs : List Nat} {k : Nat} {g : Fn} {pos p : Pos}
def oNeg (v : LV) (h : LH) : Out LV := match v with
  | .bl b => .ok (.bl (!b)) h
  | _ => .no
def gOwnNe (cs : List Nat) (g : Fn) : LV → LV → LH → Out LV := fun x y h => match insL x h with
  | some (c, _) => match insL y h with
    | some (d, _) => match hasC c cs && Nat.beq c d with
      | true => (g [x, y] h).bind oNeg
      | false => .no
    | none => .no
  | none => .no
theorem op_ownNeM (M : OwnG X.prog X.w X.K X.mg X.base C "__eq__" cs k 2 g) (N : ∀ c ∈ cs, NeC X.K (C.cls c)) (hr : Room (k + 1) X.A) (hx : Passes (L2.CX X.prog X.w) X E) : OpR X (compareOp .NotEq) (fun x y H Q => ∃ c, c ∈ cs ∧ rOwnNe X.K (C.cls c) (spM C 2 g) E x y H Q) := fun pins s σ H x y v u Q I rx ry ⟨c, hc, h⟩ => by
  obtain ⟨a, k1, k2, k3, k4⟩ := M.ex c hc
  exact op_ownNe (N c hc) k1 k2 k4 hr hx pins s σ H x y v u Q I rx ry h
theorem im_ownNeM (K : PySem.W.Frag) : Im2 C E (fun x y H Q => ∃ c, c ∈ cs ∧ rOwnNe K (C.cls c) (spM C 2 g) E x y H Q) (gOwnNe cs g) := fun ρ h H x y u v Q R z1 z2 o => by
  unfold gOwnNe at o
  cases e : insL x h with
  | none => rw [e] at o; exact o.elim
  | some q =>
    obtain ⟨c, sl⟩ := q
    rw [e] at o
    dsimp only at o
    cases e1 : insL y h with
    | none => rw [e1] at o; exact o.elim
    | some q =>
      obtain ⟨d, sl2⟩ := q
      rw [e1] at o
      dsimp only at o
      cases e2 : hasC c cs && Nat.beq c d with
      | false => rw [e2] at o; exact o.elim
      | true =>
        rw [e2] at o
        rw [Bool.and_eq_true] at e2
        have := Nat.eq_of_beq_eq_true e2.2
        subst this
        obtain ⟨a, dx, vs, _, _, rfl, _, sl', _⟩ := insL_ok R z1 e
        obtain ⟨b, dy, ws, _, _, rfl, _, sl'', _⟩ := insL_ok R z2 e1
        refine ⟨c, hasC_ok e2.1, a, dx, vs, b, _, dy, ws, rfl, rfl, sl', sl'', ?_, rfl, ρ, h, [x, y], R, .cons z1 (.cons z2 .nil), o.bind fun v h1 ρ1 H1 u p1 R1 z o1 => ?_⟩
        · unfold PySem.W.notFirst
          simp
        · cases z with
          | bl r => exact ⟨r, rfl, o1.here R1 (.bl _)⟩
          | _ => exact o1.elim
theorem e_ownNe {a b : Expr} {fa fb : LS → LH → Out LV} (M : OwnG X.prog X.w X.K X.mg X.base C "__eq__" cs k 2 g) (N : ∀ c ∈ cs, NeC X.K (C.cls c)) (hr : Room (k + 1) X.A) (hx : Passes (L2.CX X.prog X.w) X E) (ha : TrE C E X a fa) (hb : TrE C E X b fb)
    (hm : behindInMarks .NotEq b = false := by first | exact nomark _ | with_unfolding_all rfl) : TrE C E X (.Compare a [.NotEq] [b] pos) (eOp (gOwnNe cs g) fa fb) := e_cmp (op_ownNeM M N hr hx) (im_ownNeM _) ha hb hm
theorem t_ownNe {a b : Expr} {fa fb : LS → LH → Out LV} (M : OwnG X.prog X.w X.K X.mg X.base C "__eq__" cs k 2 g) (N : ∀ c ∈ cs, NeC X.K (C.cls c)) (hr : Room (k + 1) X.A) (hx : Passes (L2.CX X.prog X.w) X E) (ha : TrE C E X a fa) (hb : TrE C E X b fb)
    (hm : behindInMarks .NotEq b = false := by first | exact nomark _ | with_unfolding_all rfl) : TrT C E X (.Compare a [.NotEq] [b] pos) (tOf (eOp (gOwnNe cs g) fa fb)) := t_cmp (op_ownNeM M N hr hx) (im_ownNeM _) ha hb hm
def oLen (v : LV) (h : LH) : Out LV := match v with
  | .int i => match decide (0 ≤ i ∧ i < 1000000) with
    | true => .ok (.int i) h
    | false => .no
  | _ => .no
def gOwnLen (cs : List Nat) (g : Fn) : List LV → LH → Out LV := fun xs h => match xs with
  | [x] => match insL x h with
    | some (c, _) => match hasC c cs with
      | true => (g [x] h).bind oLen
      | false => .no
    | none => .no
  | _ => .no
theorem e_ownLen {a : Expr} {es : List Expr} {fs : LS → LH → Out (List LV)} (M : OwnG X.prog X.w X.K X.mg X.base C "__len__" cs k 1 g) (hr : Room (k + 1) X.A) (hx : Passes (L2.CX X.prog X.w) X E) (hm : X.mg "len" = none) (ha : TrA C E X (a :: es) fs) (hgl : Gl X "len" := by rfl)
    (he : starEach (a :: es) X.env = (false, eval a X.env) :: starEach es X.env := by rfl) (hpl : (backTo pos (starEach es X.env)).any (·.1) = false := by rfl) :
    TrE C E X (.Call (.Name "len" p) (a :: es) [] pos) (eB (gOwnLen cs g) fs) := by
  refine e_callB (r := fun xs H Q => ∃ c, c ∈ cs ∧ rOwnLen (C.cls c) (spM C 1 g) E xs H Q) (fun pins s σ H xs us Q I r ⟨c, hc, h⟩ => ?_) (fun ρ h H x u Q R z o => ?_) hm PySem.boot_len ha hgl (by decide) (by decide) he hpl
  · obtain ⟨a, k1, k2, k3, k4⟩ := M.ex c hc
    exact call_ownLen k1 k2 k4 hr hx pins s σ H xs us Q I r h
  · unfold gOwnLen at o
    split at o
    · rename_i x
      obtain ⟨u, rfl, z1⟩ := z.one_
      cases e : insL x h with
      | none => rw [e] at o; exact o.elim
      | some q =>
        obtain ⟨c, sl⟩ := q
        rw [e] at o
        dsimp only at o
        cases e2 : hasC c cs with
        | false => rw [e2] at o; exact o.elim
        | true =>
          rw [e2] at o
          obtain ⟨a, dx, vs, _, _, rfl, _, sl', _⟩ := insL_ok R z1 e
          refine ⟨c, hasC_ok e2, a, dx, vs, rfl, sl', rfl, ρ, h, [x], R, .cons z1 .nil, o.bind fun v h1 ρ1 H1 u p1 R1 z o1 => ?_⟩
          cases z with
          | int i =>
            unfold oLen at o1
            dsimp only at o1
            cases e3 : decide (0 ≤ i ∧ i < 1000000) with
            | false => rw [e3] at o1; exact o1.elim
            | true =>
              rw [e3] at o1
              have := of_decide_eq_true e3
              exact ⟨i, rfl, this.1, by omega, o1.here R1 (.int _)⟩
          | _ => exact o1.elim
    · exact o.elim
end
end MR
set_option maxHeartbeats 4000000
/-! Mirror 27: what the derivations ask of the text: one structure. -/
namespace MR
open PySem PySem.Spec PyProof.Rows L2

section
variable {P : Program} {w : World} {K : PySem.W.Frag} {mg : Str → Option Value} {base : Heap} {C : Cst} {X : Cx}
theorem passE0 : Passes (L2.CX X.prog X.w) X E0 := fun pins σ H s e s' I h => by
  obtain ⟨_, _, _, _, _, _, _, _, _, _, _, _, z⟩ := h
  exact z.elim
theorem u1 {k : Nat} {A : Around} (hr : Room k A) : A.units + 1 < cLine := by have := hr.un; omega
end
section
variable {C : Cst} {E : XK} {X : Cx} {pos p : Pos}
/-- x(), x a def without parameters -/
theorem e_call0 {x : Str} {k : Nat} {m : Fn} (c : Cal X.prog X.w X.K X.mg X.base C x k 0 m) (hr : Room k X.A) (hx : Passes (L2.CX X.prog X.w) X E) (hg : Gl X x := by rfl) (hdb : (x == ("__debug__" : Str)) = false := by decide) : TrE C E X (.Call (.Name x p) [] [] pos) (eCall 0 m aNil) := by
  obtain ⟨f, fd, ps, hn, hm, hk, hb, F⟩ := c.ex
  exact ⟨_, pe_call0 F hr hg hm hk hb .nil hx hdb, im_call (C := C) (n := 0) (m := m) (ta := tNil) (fs := aNil) fun ρ h H l σ Q R S o => o.here R .nil⟩
end
/-- e not in D, a test -/
theorem pc_kdNot {X : Cx} {p : Addr} {tab : List (List Nat × Int)} {mis : List (List Nat)} {e : Expr} {te : TE} {x : Str} {pos2 : Pos} (k : KDic X.K X.w p tab mis) (he : PE X e te) (hg : Gl X x) (hm : X.mg x = some (.ref p)) (hd : (x == ("__debug__" : Str)) = false) : PC X .NotIn e (.Name x pos2) (tKd X.K p (fun r => some (.bl (!r.isSome))) te) := by
  refine ⟨fun pins s σ H Q I h => thn (he.run pins s σ H _ I h) fun v s1 ⟨y, H1, I1, r1, q1⟩ => ?_⟩
  obtain ⟨z, r, v', rfl, hk, e1, q⟩ := q1
  cases e1
  obtain ⟨t, rfl⟩ := r1
  refine ld_glob I1 hg hm ?_ hd
  obtain ⟨es, n, hl, hkl, _, _⟩ := k.ex
  have hmo := PySem.W.mapOf_K (prog := X.prog) (w := X.w) I1.kIn hl hkl
  refine wpAny_notIn_of (strKind_is X.prog X.w z t) k.lo hmo ?_
  cases r with
  | none => rw [PySem.W.find_K hl hk]; exact ⟨.bl true, H1, I1.tok _, rfl, q⟩
  | some v =>
    obtain ⟨u, hu, ru⟩ := hk
    rw [PySem.W.find_K hl hu]; exact ⟨.bl false, H1, I1.tok _, rfl, q⟩
theorem t_kdNot {C : Cst} {E : XK} {X : Cx} {tab : List (List Nat × Int)} {mis : List (List Nat)} {e : Expr} {fe : LS → LH → Out LV} {pos : Pos} {x : Str} {pos2 : Pos} (hk : ∃ p, X.mg x = some (.ref p) ∧ KDic X.K X.w p tab mis) (he : TrE C E X e fe) (hg : Gl X x := by rfl) (hd : (x == ("__debug__" : Str)) = false := by decide) (hmk : behindInMarks .NotIn (.Name x pos2) = false := by first | exact nomark _ | with_unfolding_all rfl) : TrT C E X (.Compare e [.NotIn] [.Name x pos2] pos) (tOf (eUn (gKd tab mis (gThere true)) fe)) := by
  obtain ⟨p, hm, k⟩ := hk
  obtain ⟨t, q, i⟩ := he
  refine ⟨_, pt_cmp (pc_kdNot k q hg hm hd) hmk, im_tB (im_kd k (fun o v e => ?_) i)⟩
  cases o <;> cases e <;> exact ⟨_, rfl, fun _ => .bl _⟩
/-! ### numbers of classes and places of their slots -/
def icOf (d : Nat) : Nat → Option Bool
  | 24 => some (Nat.beq d 24)
  | 26 => some (Nat.beq d 26)
  | 38 => some (Nat.beq d 38)
  | 41 => some (Nat.beq d 41)
  | 42 => some (Nat.beq d 42)
  | _ => none
/-- an own exception without an __init__ -/
structure Ex0 (K : PySem.W.Frag) (mg : Str → Option Value) (C : Cst) (x : Str) (c : Nat) : Prop where
  q : PySem.W.excIn K (C.exc c) [.type "ValueError", .type "Exception", .type "BaseException", .type "object"] "ValueError.__new__" = true
  g : mg x = some (.ref (C.exc c))
  k : PySem.W.keepIn K (.ref (C.exc c)) = true
  s : PySem.W.subIn K (.ref (C.exc c)) (.type "BaseException") = some true
  t : PySem.W.typeIn K (.ref (C.exc c)) = some (.type "type")
theorem r0 {C : Cst} {E : XK} {X : Cx} {e : Expr} {fe : LS → LH → Out LV} {x : Str} {p pos pos2 : Pos} {c : Nat} (T : Ex0 X.K X.mg C x c) (hc : X.calm = true) (tk : Takes X (fun cls d _ H => E cls d H)) (he : TrE C E X e fe) (hg : Gl X x := by rfl) (hs : starEach [e] X.env = (false, eval e X.env) :: starEach [] X.env := by rfl) (hdb : (x == ("__debug__" : Str)) = false := by decide) :
    TrS C E X (.Raise (some (.Call (.Name x p) [e] [] pos)) none pos2) (sRaise0 c fe) :=
  s_raise0 c hc tk PySem.F.excBase_ValueError T.q T.g T.k (raises_own T.s T.t) he hg hs hdb
structure TX (P : Program) (w : World) (K : PySem.W.Frag) (mg : Str → Option Value) (base : Heap) (C : Cst) (xB xS xT D1 D2 D3 : Nat → Addr) (misS misE : List (List Nat)) : Prop where
  isi : mg "isinstance" = none
  int : mg "int" = none
  bool : mg "bool" = none
  str : mg "str" = none
  tuple : mg "tuple" = none
  list : mg "list" = none
  dict : mg "dict" = none
  len : mg "len" = none
  all : mg "all" = none
  any : mg "any" = none
  min : mg "min" = none
  range : mg "range" = none
  enum : mg "enumerate" = none
  zip : mg "zip" = none
  mv : ∃ u, mg "MOST_VARIABLES" = some u ∧ RelV (vOf (.int 8)) u
  mb : ∃ u, mg "MOST_BLOCKS" = some u ∧ RelV (vOf (.int 16)) u
  mr : ∃ u, mg "MOST_ROWS" = some u ∧ RelV (vOf (.int 12)) u
  ms : ∃ u, mg "MOST_SPAN" = some u ∧ RelV (vOf (.int 8)) u
  mh : ∃ u, mg "MOST_HANDED" = some u ∧ RelV (vOf (.int 3)) u
  m1 : ∃ u, mg "MOST_SINGLE" = some u ∧ RelV (vOf (.int 48)) u
  m2 : ∃ u, mg "MOST_SINGLE_ROWS" = some u ∧ RelV (vOf (.int 24)) u
  sizes : ∃ p, mg "SIZES" = some (.ref p) ∧ KDic K w p tabSizes misS
  ends : ∃ p, mg "ENDS" = some (.ref p) ∧ KDic K w p tabEnds misE
  sBlocks : SlotIx C K "blocks" ixBlocks
  sHanded : SlotIx C K "handed" ixHanded
  sMany : SlotIx C K "many" ixMany
  sSpan : SlotIx C K "span" ixSpan
  sPast : SlotIx C K "past" ixPast
  sNotes : SlotIx C K "notes" ixNotes
  sFloor : SlotIx C K "floor" ixFloor
  sDesk : SlotIx C K "desk" ixDesk
  cProgram : mg "Program" = some (.ref (C.cls 26))
  cSingle : mg "Single" = some (.ref (C.cls 38))
  kProgram : IsC K C (C.cls 26) (icOf 26)
  kSingle : IsC K C (C.cls 38) (icOf 38)
  xProgram : ExT P w K mg base C "BadProgram" 3 1 (D1 0) (tx "part")
  xSingle : ExT P w K mg base C "BadSingle" 4 1 (D2 0) (tx "part")
  xText : ExT P w K mg base C "BadText" 8 1 (D3 0) (tx "row")
  xBlock : Ex0 K mg C "BadBlock" 5
  xNothing : Ex0 K mg C "NothingDone" 7
  xEdit : Ex0 K mg C "BadEdit" 9
end MR
set_option maxHeartbeats 4000000
namespace MR
open PySem PySem.Spec PyProof.Rows L2
theorem u64 {k : Nat} {A : Around} (hr : Room k A) : A.units + 64 < cLine := by have := hr.un; omega
abbrev st_is_integer : Stmt := top 17
def b_is_integer : LS → LH → Out LF := (sRet (eAnd (eUn (gIsTy .int) (eVar 0)) (eAnd (eNot (eUn (gIsTy .bool) (eVar 0))) (eChain gLe gLe (eVar 1) (eVar 0) (eVar 2)))))
def m_is_integer : Fn := mFn 3 b_is_integer
theorem sc_is_integer : FnScope [("thing" : Str), ("low" : Str), ("high" : Str)] [("thing" : Str), ("low" : Str), ("high" : Str)] (defScope st_is_integer) := ⟨rfl, rfl, rfl, by decide +kernel, rfl, by decide +kernel, by decide +kernel⟩
theorem ok_is_integer {P : Program} {w : World} {K : PySem.W.Frag} {mg : Str → Option Value} {base : Heap} {C : Cst} {xB xS xT D1 D2 D3 : Nat → Addr} {f : Addr} {fd : FuncData} (T : TX P w K mg base C xB xS xT D1 D2 D3 misS misE)  (Fd : Fun K "is_integer" "is_integer" st_is_integer f fd) : FnOk P w K mg base (L2.CX P w) 3 f fd [("thing" : Str), ("low" : Str), ("high" : Str)] (spM C 3 m_is_integer) := by
  have nd := sc_is_integer.nd
  refine fn_ok Fd sc_is_integer fun cdv A outer s H E hr => ?_
  exact (ss_one (s_ret (e_and (e_isTy .int T.isi T.int (e_var 0) (by decide +kernel)) (e_and (e_not (e_isTy .bool T.isi T.bool (e_var 0) (by decide +kernel))) (e_one (e_chain op_le op_le im_le im_le (e_var 1) (e_var 0) (e_var 2)))))))
abbrev st_is_row : Stmt := top 18
def b_is_row : LS → LH → Out LF := (sCons (sIf (bOr (bNot (tOf (eUn (gIsTy .tuple) (eVar 0)))) (bOr (tOf (eOp gEq (eVar 0) (eNew .tup aNil))) (bOr (bNot (tOf (eUn (gIsTy .str) (eOp gIx (eVar 0) (eC (.int 0)))))) (tOf (eUn (gKd tabSizes misS (gThere true)) (eOp gIx (eVar 0) (eC (.int 0)))))))) (sRet (eC (.bl false))) sNil) (sCons (sIf (tOf (eOp gNe (eB gLen (aCons (eVar 0) aNil)) (eUn (gKd tabSizes misS gItem) (eOp gIx (eVar 0) (eC (.int 0)))))) (sRet (eC (.bl false))) sNil) (sCons (sIf (tOf (eOp gEq (eOp gIx (eVar 0) (eC (.int 0))) (eC (.str [112, 117, 116])))) (sRet (eAnd (eCall 3 m_is_integer (aCons (eOp gIx (eVar 0) (eC (.int 1))) (aCons (eC (.int 0)) (aCons (eOp gSub (eVar 1) (eC (.int 1))) aNil)))) (eCall 3 m_is_integer (aCons (eOp gIx (eVar 0) (eC (.int 2))) (aCons (eC (.int 0)) (aCons (eOp gSub (eVar 2) (eC (.int 1))) aNil)))))) sNil) (sRet (eB (gQ true) (aCons (eLc (iSeq tupL (eSl (eVar 0) (oSome (eC (.int 1))) oNone)) (gN 3) bYes (eCall 3 m_is_integer (aCons (eVar 3) (aCons (eC (.int 0)) (aCons (eOp gSub (eVar 1) (eC (.int 1))) aNil)))) [3]) aNil))))))
def m_is_row : Fn := mFn 4 b_is_row
theorem sc_is_row : FnScope [("thing" : Str), ("many" : Str), ("span" : Str), ("one" : Str)] [("thing" : Str), ("many" : Str), ("span" : Str)] (defScope st_is_row) := ⟨rfl, rfl, rfl, by decide +kernel, rfl, by decide +kernel, by decide +kernel⟩
theorem ok_is_row {P : Program} {w : World} {K : PySem.W.Frag} {mg : Str → Option Value} {base : Heap} {C : Cst} {xB xS xT D1 D2 D3 : Nat → Addr} {f : Addr} {fd : FuncData} (T : TX P w K mg base C xB xS xT D1 D2 D3 misS misE) (c_is_integer : Cal P w K mg base C "is_integer" 3 3 m_is_integer) (Fd : Fun K "is_row" "is_row" st_is_row f fd) : FnOk P w K mg base (L2.CX P w) 4 f fd [("thing" : Str), ("many" : Str), ("span" : Str)] (spM C 3 m_is_row) := by
  have nd := sc_is_row.nd
  refine fn_ok Fd sc_is_row fun cdv A outer s H E hr => ?_
  exact (ss_cons (s_if (w_t (w_or (t_not (t_val (e_isTy .tuple T.isi T.tuple (e_var 0) (by decide +kernel)))) (w_or (t_cmp (op_eqD (u64 hr)) (im_eq _) (e_var 0) (e_tup a_nil)) (w_or (t_not (t_val (e_isTy .str T.isi T.str (e_ix (e_var 0) e_int) (by decide +kernel)))) (w_or1 (t_kdNot T.sizes (e_ix (e_var 0) e_int))))))) (ss_one (s_ret e_bl)) ss_nil) (ss_cons (s_if (t_cmp (op_neD (u64 hr)) (im_ne _) (e_len T.len (a_cons (e_var 0) a_nil)) (e_kdItem T.sizes (e_ix (e_var 0) e_int))) (ss_one (s_ret e_bl)) ss_nil) (ss_cons (s_if (t_cmp (op_eqD (u64 hr)) (im_eq _) (e_ix (e_var 0) e_int) (e_str [112, 117, 116] rfl)) (ss_one (s_ret (e_and (e_call c_is_integer (hr.mono (by decide)) (pass_of rfl rfl rfl rfl) (a_cons (e_ix (e_var 0) e_int) (a_cons e_int (a_cons (e_op op_sub im_sub (e_var 1) e_int) a_nil)))) (e_one (e_call c_is_integer (hr.mono (by decide)) (pass_of rfl rfl rfl rfl) (a_cons (e_ix (e_var 0) e_int) (a_cons e_int (a_cons (e_op op_sub im_sub (e_var 2) e_int) a_nil)))))))) ss_nil) (ss_one (s_ret (e_callB (cr_all rfl) (im_all _) T.all (by decide +kernel) (a_cons (e_lc [(("one" : Str), 3)] rfl nd (by kernel_rfl) (by decide) (i_tup (e_slice (e_var 0) (o_some e_int) o_none)) (fun _ _ _ _ _ => (g_name 3 nd)) (fun _ _ _ _ _ => p_nil) (fun _ _ _ _ _ => (e_call c_is_integer (hr.mono (by decide)) passE0 (a_cons (e_var 3) (a_cons e_int (a_cons (e_op op_sub im_sub (e_var 1) e_int) a_nil)))))) a_nil)))))))
abbrev st_is_end : Stmt := top 19
def b_is_end : LS → LH → Out LF := (sCons (sIf (bOr (bNot (tOf (eUn (gIsTy .tuple) (eVar 0)))) (bOr (tOf (eOp gEq (eVar 0) (eNew .tup aNil))) (bNot (tOf (eUn (gIsTy .str) (eOp gIx (eVar 0) (eC (.int 0)))))))) (sRet (eC (.bl false))) sNil) (sCons (sIf (tOf (eOp gEq (eOp gIx (eVar 0) (eC (.int 0))) (eC (.str [115, 116, 111, 112])))) (sRet (eOp gEq (eB gLen (aCons (eVar 0) aNil)) (eC (.int 1)))) sNil) (sCons (sIf (tOf (eOp gEq (eOp gIx (eVar 0) (eC (.int 0))) (eC (.str [103, 111])))) (sRet (eAnd (eOp gEq (eB gLen (aCons (eVar 0) aNil)) (eC (.int 2))) (eCall 3 m_is_integer (aCons (eOp gIx (eVar 0) (eC (.int 1))) (aCons (eC (.int 1)) (aCons (eOp gSub (eVar 2) (eC (.int 1))) aNil)))))) sNil) (sCons (sIf (bOr (tOf (eOp gNe (eOp gIx (eVar 0) (eC (.int 0))) (eC (.str [112, 97, 114, 116])))) (bOr (tOf (eOp gNe (eB gLen (aCons (eVar 0) aNil)) (eC (.int 4)))) (bNot (tOf (eCall 3 m_is_integer (aCons (eOp gIx (eVar 0) (eC (.int 1))) (aCons (eC (.int 0)) (aCons (eOp gSub (eVar 1) (eC (.int 1))) aNil)))))))) (sRet (eC (.bl false))) sNil) (sRet (eAnd (eCall 3 m_is_integer (aCons (eOp gIx (eVar 0) (eC (.int 2))) (aCons (eC (.int 1)) (aCons (eOp gSub (eVar 2) (eC (.int 1))) aNil)))) (eCall 3 m_is_integer (aCons (eOp gIx (eVar 0) (eC (.int 3))) (aCons (eC (.int 1)) (aCons (eOp gSub (eVar 2) (eC (.int 1))) aNil))))))))))
def m_is_end : Fn := mFn 3 b_is_end
theorem sc_is_end : FnScope [("thing" : Str), ("many" : Str), ("size" : Str)] [("thing" : Str), ("many" : Str), ("size" : Str)] (defScope st_is_end) := ⟨rfl, rfl, rfl, by decide +kernel, rfl, by decide +kernel, by decide +kernel⟩
theorem ok_is_end {P : Program} {w : World} {K : PySem.W.Frag} {mg : Str → Option Value} {base : Heap} {C : Cst} {xB xS xT D1 D2 D3 : Nat → Addr} {f : Addr} {fd : FuncData} (T : TX P w K mg base C xB xS xT D1 D2 D3 misS misE) (c_is_integer : Cal P w K mg base C "is_integer" 3 3 m_is_integer) (Fd : Fun K "is_end" "is_end" st_is_end f fd) : FnOk P w K mg base (L2.CX P w) 4 f fd [("thing" : Str), ("many" : Str), ("size" : Str)] (spM C 3 m_is_end) := by
  have nd := sc_is_end.nd
  refine fn_ok Fd sc_is_end fun cdv A outer s H E hr => ?_
  exact (ss_cons (s_if (w_t (w_or (t_not (t_val (e_isTy .tuple T.isi T.tuple (e_var 0) (by decide +kernel)))) (w_or (t_cmp (op_eqD (u64 hr)) (im_eq _) (e_var 0) (e_tup a_nil)) (w_or1 (t_not (t_val (e_isTy .str T.isi T.str (e_ix (e_var 0) e_int) (by decide +kernel)))))))) (ss_one (s_ret e_bl)) ss_nil) (ss_cons (s_if (t_cmp (op_eqD (u64 hr)) (im_eq _) (e_ix (e_var 0) e_int) (e_str [115, 116, 111, 112] rfl)) (ss_one (s_ret (e_cmp (op_eqD (u64 hr)) (im_eq _) (e_len T.len (a_cons (e_var 0) a_nil)) e_int))) ss_nil) (ss_cons (s_if (t_cmp (op_eqD (u64 hr)) (im_eq _) (e_ix (e_var 0) e_int) (e_str [103, 111] rfl)) (ss_one (s_ret (e_and (e_cmp (op_eqD (u64 hr)) (im_eq _) (e_len T.len (a_cons (e_var 0) a_nil)) e_int) (e_one (e_call c_is_integer (hr.mono (by decide)) (pass_of rfl rfl rfl rfl) (a_cons (e_ix (e_var 0) e_int) (a_cons e_int (a_cons (e_op op_sub im_sub (e_var 2) e_int) a_nil)))))))) ss_nil) (ss_cons (s_if (w_t (w_or (t_cmp (op_neD (u64 hr)) (im_ne _) (e_ix (e_var 0) e_int) (e_str [112, 97, 114, 116] rfl)) (w_or (t_cmp (op_neD (u64 hr)) (im_ne _) (e_len T.len (a_cons (e_var 0) a_nil)) e_int) (w_or1 (t_not (t_val (e_call c_is_integer (hr.mono (by decide)) (pass_of rfl rfl rfl rfl) (a_cons (e_ix (e_var 0) e_int) (a_cons e_int (a_cons (e_op op_sub im_sub (e_var 1) e_int) a_nil)))))))))) (ss_one (s_ret e_bl)) ss_nil) (ss_one (s_ret (e_and (e_call c_is_integer (hr.mono (by decide)) (pass_of rfl rfl rfl rfl) (a_cons (e_ix (e_var 0) e_int) (a_cons e_int (a_cons (e_op op_sub im_sub (e_var 2) e_int) a_nil)))) (e_one (e_call c_is_integer (hr.mono (by decide)) (pass_of rfl rfl rfl rfl) (a_cons (e_ix (e_var 0) e_int) (a_cons e_int (a_cons (e_op op_sub im_sub (e_var 2) e_int) a_nil))))))))))))
abbrev st_targets_of : Stmt := top 20
def b_targets_of : LS → LH → Out LF := (sCons (sIf (tOf (eOp gEq (eOp gIx (eVar 0) (eC (.int 0))) (eC (.str [103, 111])))) (sRet (eNew .tup (aCons (eOp gIx (eVar 0) (eC (.int 1))) aNil))) sNil) (sRet (eIf (tOf (eOp gEq (eOp gIx (eVar 0) (eC (.int 0))) (eC (.str [112, 97, 114, 116])))) (eNew .tup (aCons (eOp gIx (eVar 0) (eC (.int 2))) (aCons (eOp gIx (eVar 0) (eC (.int 3))) aNil))) (eNew .tup aNil))))
def m_targets_of : Fn := mFn 1 b_targets_of
theorem sc_targets_of : FnScope [("end" : Str)] [("end" : Str)] (defScope st_targets_of) := ⟨rfl, rfl, rfl, by decide +kernel, rfl, by decide +kernel, by decide +kernel⟩
theorem ok_targets_of {P : Program} {w : World} {K : PySem.W.Frag} {mg : Str → Option Value} {base : Heap} {C : Cst} {xB xS xT D1 D2 D3 : Nat → Addr} {f : Addr} {fd : FuncData} (T : TX P w K mg base C xB xS xT D1 D2 D3 misS misE)  (Fd : Fun K "targets_of" "targets_of" st_targets_of f fd) : FnOk P w K mg base (L2.CX P w) 3 f fd [("end" : Str)] (spM C 1 m_targets_of) := by
  have nd := sc_targets_of.nd
  refine fn_ok Fd sc_targets_of fun cdv A outer s H E hr => ?_
  exact (ss_cons (s_if (t_cmp (op_eqD (u64 hr)) (im_eq _) (e_ix (e_var 0) e_int) (e_str [103, 111] rfl)) (ss_one (s_ret (e_tup (a_cons (e_ix (e_var 0) e_int) a_nil)))) ss_nil) (ss_one (s_ret (e_if (t_cmp (op_eqD (u64 hr)) (im_eq _) (e_ix (e_var 0) e_int) (e_str [112, 97, 114, 116] rfl)) (e_tup (a_cons (e_ix (e_var 0) e_int) (a_cons (e_ix (e_var 0) e_int) a_nil))) (e_tup a_nil)))))
abbrev st_defined_by : Stmt := top 21
def b_defined_by : LS → LH → Out LF := (sRet (eIf (tOf (eOp gEq (eOp gIx (eVar 0) (eC (.int 0))) (eC (.str [116, 101, 108, 108])))) (eC .non) (eOp gIx (eVar 0) (eC (.int 1)))))
def m_defined_by : Fn := mFn 1 b_defined_by
theorem sc_defined_by : FnScope [("row" : Str)] [("row" : Str)] (defScope st_defined_by) := ⟨rfl, rfl, rfl, by decide +kernel, rfl, by decide +kernel, by decide +kernel⟩
theorem ok_defined_by {P : Program} {w : World} {K : PySem.W.Frag} {mg : Str → Option Value} {base : Heap} {C : Cst} {xB xS xT D1 D2 D3 : Nat → Addr} {f : Addr} {fd : FuncData} (T : TX P w K mg base C xB xS xT D1 D2 D3 misS misE)  (Fd : Fun K "defined_by" "defined_by" st_defined_by f fd) : FnOk P w K mg base (L2.CX P w) 3 f fd [("row" : Str)] (spM C 1 m_defined_by) := by
  have nd := sc_defined_by.nd
  refine fn_ok Fd sc_defined_by fun cdv A outer s H E hr => ?_
  exact (ss_one (s_ret (e_if (t_cmp (op_eqD (u64 hr)) (im_eq _) (e_ix (e_var 0) e_int) (e_str [116, 101, 108, 108] rfl)) e_non (e_ix (e_var 0) e_int))))
abbrev st_used_by : Stmt := top 22
def b_used_by : LS → LH → Out LF := (sCons (sIf (tOf (eOp (gIn false) (eOp gIx (eVar 0) (eC (.int 0))) (eNew .tup (aCons (eC (.str [112, 117, 116])) (aCons (eC (.str [116, 97, 107, 101])) (aCons (eC (.str [103, 111])) (aCons (eC (.str [115, 116, 111, 112])) aNil))))))) (sRet (eNew .tup aNil)) sNil) (sCons (sIf (tOf (eOp (gIn false) (eOp gIx (eVar 0) (eC (.int 0))) (eNew .tup (aCons (eC (.str [116, 101, 108, 108])) (aCons (eC (.str [112, 97, 114, 116])) aNil))))) (sRet (eNew .tup (aCons (eOp gIx (eVar 0) (eC (.int 1))) aNil))) sNil) (sRet (eSl (eVar 0) (oSome (eC (.int 2))) oNone))))
def m_used_by : Fn := mFn 1 b_used_by
theorem sc_used_by : FnScope [("row" : Str)] [("row" : Str)] (defScope st_used_by) := ⟨rfl, rfl, rfl, by decide +kernel, rfl, by decide +kernel, by decide +kernel⟩
theorem ok_used_by {P : Program} {w : World} {K : PySem.W.Frag} {mg : Str → Option Value} {base : Heap} {C : Cst} {xB xS xT D1 D2 D3 : Nat → Addr} {f : Addr} {fd : FuncData} (T : TX P w K mg base C xB xS xT D1 D2 D3 misS misE)  (Fd : Fun K "used_by" "used_by" st_used_by f fd) : FnOk P w K mg base (L2.CX P w) 3 f fd [("row" : Str)] (spM C 1 m_used_by) := by
  have nd := sc_used_by.nd
  refine fn_ok Fd sc_used_by fun cdv A outer s H E hr => ?_
  exact (ss_cons (s_if (t_cmp op_inM (im_in _ false) (e_ix (e_var 0) e_int) (e_tup (a_cons (e_str [112, 117, 116] rfl) (a_cons (e_str [116, 97, 107, 101] rfl) (a_cons (e_str [103, 111] rfl) (a_cons (e_str [115, 116, 111, 112] rfl) a_nil)))))) (ss_one (s_ret (e_tup a_nil))) ss_nil) (ss_cons (s_if (t_cmp op_inM (im_in _ false) (e_ix (e_var 0) e_int) (e_tup (a_cons (e_str [116, 101, 108, 108] rfl) (a_cons (e_str [112, 97, 114, 116] rfl) a_nil)))) (ss_one (s_ret (e_tup (a_cons (e_ix (e_var 0) e_int) a_nil)))) ss_nil) (ss_one (s_ret (e_slice (e_var 0) (o_some e_int) o_none)))))
abbrev st_are_reached : Stmt := top 23
def b_are_reached : LS → LH → Out LF := (sCons (sPar2 1 2 (aCons (eDisp1 (eC (.int 0)) (eC (.bl true))) (aCons (eNew .lst (aCons (eC (.int 0)) aNil)) aNil))) (sCons (loopW (tOf (eOp gNe (eVar 2) (eNew .lst aNil))) (sFor (iSeq tupL (eCall 1 m_targets_of (aCons (eOp gIx (eOp gIx (eVar 0) (eBM .list gPop (eVar 2) aNil)) (eUn gNeg (eC (.int 1)))) aNil))) (gN 3) (sIf (tOf (eOp (gDIn true) (eVar 3) (eVar 1))) (sCons (sDPutM (eVar 1) (eVar 3) (eC (.bl true))) (sDrop (eBM .list gAppend (eVar 2) (aCons (eVar 3) aNil)))) sNil)) 1000) (sRet (eOp gEq (eB gLen (aCons (eVar 1) aNil)) (eB gLen (aCons (eVar 0) aNil))))))
def m_are_reached : Fn := mFn 4 b_are_reached
theorem sc_are_reached : FnScope [("blocks" : Str), ("found" : Str), ("waiting" : Str), ("target" : Str)] [("blocks" : Str)] (defScope st_are_reached) := ⟨rfl, rfl, rfl, by decide +kernel, rfl, by decide +kernel, by decide +kernel⟩
theorem ok_are_reached {P : Program} {w : World} {K : PySem.W.Frag} {mg : Str → Option Value} {base : Heap} {C : Cst} {xB xS xT D1 D2 D3 : Nat → Addr} {f : Addr} {fd : FuncData} (T : TX P w K mg base C xB xS xT D1 D2 D3 misS misE) (c_targets_of : Cal P w K mg base C "targets_of" 3 1 m_targets_of) (Fd : Fun K "are_reached" "are_reached" st_are_reached f fd) : FnOk P w K mg base (L2.CX P w) 4 f fd [("blocks" : Str)] (spM C 1 m_are_reached) := by
  have nd := sc_are_reached.nd
  refine fn_ok Fd sc_are_reached fun cdv A outer s H E hr => ?_
  exact (ss_cons (s_par2 1 2 rfl nd (a_cons (e_disp1 e_int e_bl) (a_cons (e_lst (a_cons e_int a_nil)) a_nil))) (ss_cons (s_while (passes_of rfl) (t_cmp (op_neD (u64 hr)) (im_ne _) (e_var 2) (e_lst a_nil)) (ss_one (s_for (passes_of rfl) rfl (i_tup (e_call c_targets_of (hr.mono (by decide)) (pass_of rfl rfl rfl rfl) (a_cons (e_ix (e_ix (e_var 0) (e_bm0 .list PySem.F.plainAttrs_list PySem.F.slot_list_pop PySem.F.type_list_pop mt_pop im_pop (e_var 2))) (e_neg e_int)) a_nil))) (g_name 3 nd) (ss_one (s_if (t_dnotin (u1 hr) (e_var 3) (e_var 1)) (ss_cons (s_dput (u1 hr) (e_var 1) (e_var 3) e_bl) (ss_one (s_expr (e_bm .list PySem.F.plainAttrs_list PySem.F.slot_list_append PySem.F.type_list_append mt_append im_append (e_var 2) (a_cons (e_var 3) a_nil))))) ss_nil))))) (ss_one (s_ret (e_cmp (op_eqD (u64 hr)) (im_eq _) (e_len T.len (a_cons (e_var 1) a_nil)) (e_len T.len (a_cons (e_var 0) a_nil)))))))
abbrev st_is_plain_block : Stmt := top 25
def b_is_plain_block : LS → LH → Out LF := (sCons (sIf (bOr (bNot (tOf (eUn (gIsTy .tuple) (eVar 0)))) (bOr (tOf (eOp gNe (eB gLen (aCons (eVar 0) aNil)) (eC (.int 2)))) (bNot (tOf (eUn (gIsTy .tuple) (eOp gIx (eVar 0) (eC (.int 0)))))))) (sRet (eC (.bl false))) sNil) (sCons (sIf (bOr (tOf (eOp gGt (eB gLen (aCons (eOp gIx (eVar 0) (eC (.int 0))) aNil)) (eC (.int 12)))) (bNot (tOf (eB (gQ true) (aCons (eLc (iSeq tupL (eOp gIx (eVar 0) (eC (.int 0)))) (gN 4) bYes (eCall 3 m_is_row (aCons (eVar 4) (aCons (eVar 1) (aCons (eVar 2) aNil)))) [4]) aNil))))) (sRet (eC (.bl false))) sNil) (sRet (eCall 3 m_is_end (aCons (eOp gIx (eVar 0) (eC (.int 1))) (aCons (eVar 1) (aCons (eVar 3) aNil)))))))
def m_is_plain_block : Fn := mFn 5 b_is_plain_block
theorem sc_is_plain_block : FnScope [("thing" : Str), ("many" : Str), ("span" : Str), ("size" : Str), ("row" : Str)] [("thing" : Str), ("many" : Str), ("span" : Str), ("size" : Str)] (defScope st_is_plain_block) := ⟨rfl, rfl, rfl, by decide +kernel, rfl, by decide +kernel, by decide +kernel⟩
theorem ok_is_plain_block {P : Program} {w : World} {K : PySem.W.Frag} {mg : Str → Option Value} {base : Heap} {C : Cst} {xB xS xT D1 D2 D3 : Nat → Addr} {f : Addr} {fd : FuncData} (T : TX P w K mg base C xB xS xT D1 D2 D3 misS misE) (c_is_row : Cal P w K mg base C "is_row" 4 3 m_is_row) (c_is_end : Cal P w K mg base C "is_end" 4 3 m_is_end) (Fd : Fun K "is_plain_block" "is_plain_block" st_is_plain_block f fd) : FnOk P w K mg base (L2.CX P w) 5 f fd [("thing" : Str), ("many" : Str), ("span" : Str), ("size" : Str)] (spM C 4 m_is_plain_block) := by
  have nd := sc_is_plain_block.nd
  refine fn_ok Fd sc_is_plain_block fun cdv A outer s H E hr => ?_
  exact (ss_cons (s_if (w_t (w_or (t_not (t_val (e_isTy .tuple T.isi T.tuple (e_var 0) (by decide +kernel)))) (w_or (t_cmp (op_neD (u64 hr)) (im_ne _) (e_len T.len (a_cons (e_var 0) a_nil)) e_int) (w_or1 (t_not (t_val (e_isTy .tuple T.isi T.tuple (e_ix (e_var 0) e_int) (by decide +kernel)))))))) (ss_one (s_ret e_bl)) ss_nil) (ss_cons (s_if (w_t (w_or (t_cmp op_gt im_gt (e_len T.len (a_cons (e_ix (e_var 0) e_int) a_nil)) (e_gc (.int 12) rfl T.mr)) (w_or1 (t_not (t_val (e_callB (cr_all rfl) (im_all _) T.all (by decide +kernel) (a_cons (e_lc [(("row" : Str), 4)] rfl nd (by kernel_rfl) (by decide) (i_tup (e_ix (e_var 0) e_int)) (fun _ _ _ _ _ => (g_name 4 nd)) (fun _ _ _ _ _ => p_nil) (fun _ _ _ _ _ => (e_call c_is_row (hr.mono (by decide)) passE0 (a_cons (e_var 4) (a_cons (e_var 1) (a_cons (e_var 2) a_nil)))))) a_nil))))))) (ss_one (s_ret e_bl)) ss_nil) (ss_one (s_ret (e_call c_is_end (hr.mono (by decide)) (pass_of rfl rfl rfl rfl) (a_cons (e_ix (e_var 0) e_int) (a_cons (e_var 1) (a_cons (e_var 3) a_nil))))))))
end MR
set_option maxHeartbeats 4000000
namespace MR
open PySem PySem.Spec PyProof.Rows L2
abbrev st_Blocks___init__ : Stmt := inClass (top 24) 1
def b_Blocks___init__ : LS → LH → Out LF := (sAttr ixBlocks (eVar 0) (eVar 1))
def m_Blocks___init__ : Fn := mFn 2 b_Blocks___init__
theorem sc_Blocks___init__ : FnScope [("self" : Str), ("blocks" : Str)] [("self" : Str), ("blocks" : Str)] (defScope st_Blocks___init__) := ⟨rfl, rfl, rfl, by decide +kernel, rfl, by decide +kernel, by decide +kernel⟩
theorem ok_Blocks___init__ {P : Program} {w : World} {K : PySem.W.Frag} {mg : Str → Option Value} {base : Heap} {C : Cst} {xB xS xT D1 D2 D3 : Nat → Addr} {f : Addr} {fd : FuncData} (T : TX P w K mg base C xB xS xT D1 D2 D3 misS misE)  (Fd : Fun K "__init__" "Blocks.__init__" st_Blocks___init__ f fd) : FnOk P w K mg base (L2.CX P w) 3 f fd [("self" : Str), ("blocks" : Str)] (spM C 2 m_Blocks___init__) := by
  have nd := sc_Blocks___init__.nd
  refine fn_ok Fd sc_Blocks___init__ fun cdv A outer s H E hr => ?_
  exact (ss_one (s_attr T.sBlocks (e_var 0) (e_var 1)))
abbrev st_Blocks___getitem__ : Stmt := inClass (top 24) 3
def b_Blocks___getitem__ : LS → LH → Out LF := (sCons (sIf (bNot (tOf (eCall 3 m_is_integer (aCons (eVar 1) (aCons (eC (.int 0)) (aCons (eOp gSub (eB gLen (aCons (eAttr ixBlocks (eVar 0)) aNil)) (eC (.int 1))) aNil)))))) (sRaise0 5 (eC (.str [110, 111, 116, 32, 97, 32, 98, 108, 111, 99, 107]))) sNil) (sRet (eOp gIx (eAttr ixBlocks (eVar 0)) (eVar 1))))
def m_Blocks___getitem__ : Fn := mFn 2 b_Blocks___getitem__
theorem sc_Blocks___getitem__ : FnScope [("self" : Str), ("block" : Str)] [("self" : Str), ("block" : Str)] (defScope st_Blocks___getitem__) := ⟨rfl, rfl, rfl, by decide +kernel, rfl, by decide +kernel, by decide +kernel⟩
theorem ok_Blocks___getitem__ {P : Program} {w : World} {K : PySem.W.Frag} {mg : Str → Option Value} {base : Heap} {C : Cst} {xB xS xT D1 D2 D3 : Nat → Addr} {f : Addr} {fd : FuncData} (T : TX P w K mg base C xB xS xT D1 D2 D3 misS misE) (c_is_integer : Cal P w K mg base C "is_integer" 3 3 m_is_integer) (Fd : Fun K "__getitem__" "Blocks.__getitem__" st_Blocks___getitem__ f fd) : FnOk P w K mg base (L2.CX P w) 4 f fd [("self" : Str), ("block" : Str)] (spM C 2 m_Blocks___getitem__) := by
  have nd := sc_Blocks___getitem__.nd
  refine fn_ok Fd sc_Blocks___getitem__ fun cdv A outer s H E hr => ?_
  exact (ss_cons (s_if (t_not (t_val (e_call c_is_integer (hr.mono (by decide)) (pass_of rfl rfl rfl rfl) (a_cons (e_var 1) (a_cons e_int (a_cons (e_op op_sub im_sub (e_len T.len (a_cons (e_attr T.sBlocks (e_var 0)) a_nil)) e_int) a_nil)))))) (ss_one (r0 T.xBlock rfl (takes_of rfl rfl rfl rfl) (e_str [110, 111, 116, 32, 97, 32, 98, 108, 111, 99, 107] rfl))) ss_nil) (ss_one (s_ret (e_ix (e_attr T.sBlocks (e_var 0)) (e_var 1)))))
abbrev st_Blocks_rows : Stmt := inClass (top 24) 5
def b_Blocks_rows : LS → LH → Out LF := (sRet (eOp gIx (eOp (gOwn [24, 26, 38] m_Blocks___getitem__) (eVar 0) (eVar 1)) (eUn gNeg (eC (.int 2)))))
def m_Blocks_rows : Fn := mFn 2 b_Blocks_rows
theorem sc_Blocks_rows : FnScope [("self" : Str), ("block" : Str)] [("self" : Str), ("block" : Str)] (defScope st_Blocks_rows) := ⟨rfl, rfl, rfl, by decide +kernel, rfl, by decide +kernel, by decide +kernel⟩
theorem ok_Blocks_rows {P : Program} {w : World} {K : PySem.W.Frag} {mg : Str → Option Value} {base : Heap} {C : Cst} {xB xS xT D1 D2 D3 : Nat → Addr} {f : Addr} {fd : FuncData} (T : TX P w K mg base C xB xS xT D1 D2 D3 misS misE) (o_getitem : OwnG P w K mg base C "__getitem__" [24, 26, 38] 4 2 m_Blocks___getitem__) (Fd : Fun K "rows" "Blocks.rows" st_Blocks_rows f fd) : FnOk P w K mg base (L2.CX P w) 6 f fd [("self" : Str), ("block" : Str)] (spM C 2 m_Blocks_rows) := by
  have nd := sc_Blocks_rows.nd
  refine fn_ok Fd sc_Blocks_rows fun cdv A outer s H E hr => ?_
  exact (ss_one (s_ret (e_ix (e_ownIx o_getitem (hr.mono (by decide)) (pass_of rfl rfl rfl rfl) (e_var 0) (e_var 1)) (e_neg e_int))))
abbrev st_Blocks_end : Stmt := inClass (top 24) 6
def b_Blocks_end : LS → LH → Out LF := (sRet (eOp gIx (eOp (gOwn [24, 26, 38] m_Blocks___getitem__) (eVar 0) (eVar 1)) (eUn gNeg (eC (.int 1)))))
def m_Blocks_end : Fn := mFn 2 b_Blocks_end
theorem sc_Blocks_end : FnScope [("self" : Str), ("block" : Str)] [("self" : Str), ("block" : Str)] (defScope st_Blocks_end) := ⟨rfl, rfl, rfl, by decide +kernel, rfl, by decide +kernel, by decide +kernel⟩
theorem ok_Blocks_end {P : Program} {w : World} {K : PySem.W.Frag} {mg : Str → Option Value} {base : Heap} {C : Cst} {xB xS xT D1 D2 D3 : Nat → Addr} {f : Addr} {fd : FuncData} (T : TX P w K mg base C xB xS xT D1 D2 D3 misS misE) (o_getitem : OwnG P w K mg base C "__getitem__" [24, 26, 38] 4 2 m_Blocks___getitem__) (Fd : Fun K "end" "Blocks.end" st_Blocks_end f fd) : FnOk P w K mg base (L2.CX P w) 6 f fd [("self" : Str), ("block" : Str)] (spM C 2 m_Blocks_end) := by
  have nd := sc_Blocks_end.nd
  refine fn_ok Fd sc_Blocks_end fun cdv A outer s H E hr => ?_
  exact (ss_one (s_ret (e_ix (e_ownIx o_getitem (hr.mono (by decide)) (pass_of rfl rfl rfl rfl) (e_var 0) (e_var 1)) (e_neg e_int))))
abbrev st_Blocks_followers : Stmt := inClass (top 24) 7
def b_Blocks_followers : LS → LH → Out LF := (sRet (eCall 1 m_targets_of (aCons (eMethN [24, 26, 38] 2 m_Blocks_end (eVar 0) (aCons (eVar 1) aNil)) aNil)))
def m_Blocks_followers : Fn := mFn 2 b_Blocks_followers
theorem sc_Blocks_followers : FnScope [("self" : Str), ("block" : Str)] [("self" : Str), ("block" : Str)] (defScope st_Blocks_followers) := ⟨rfl, rfl, rfl, by decide +kernel, rfl, by decide +kernel, by decide +kernel⟩
theorem ok_Blocks_followers {P : Program} {w : World} {K : PySem.W.Frag} {mg : Str → Option Value} {base : Heap} {C : Cst} {xB xS xT D1 D2 D3 : Nat → Addr} {f : Addr} {fd : FuncData} (T : TX P w K mg base C xB xS xT D1 D2 D3 misS misE) (c_targets_of : Cal P w K mg base C "targets_of" 3 1 m_targets_of) (h_Blocks_end : MethT P w K mg base C "end" [24, 26, 38] 6 2 m_Blocks_end) (Fd : Fun K "followers" "Blocks.followers" st_Blocks_followers f fd) : FnOk P w K mg base (L2.CX P w) 7 f fd [("self" : Str), ("block" : Str)] (spM C 2 m_Blocks_followers) := by
  have nd := sc_Blocks_followers.nd
  refine fn_ok Fd sc_Blocks_followers fun cdv A outer s H E hr => ?_
  exact (ss_one (s_ret (e_call c_targets_of (hr.mono (by decide)) (pass_of rfl rfl rfl rfl) (a_cons (e_meth h_Blocks_end (hr.mono (by decide)) (pass_of rfl rfl rfl rfl) (e_var 0) (a_cons (e_var 1) a_nil)) a_nil))))
abbrev st_Blocks_edges_into : Stmt := inClass (top 24) 8
def b_Blocks_edges_into : LS → LH → Out LF := (sCons (sAsg (eNew .lst aNil) (gN 2)) (sCons (sIf (tOf (eOp gNe (eOp (gOwn [24, 26, 38] m_Blocks___getitem__) (eVar 0) (eVar 1)) (eNew .tup aNil))) (sFor (iRange1 (aCons (eB gLen (aCons (eAttr ixBlocks (eVar 0)) aNil)) aNil)) (gN 3) (sDrop (eBM .list gExtend (eVar 2) (aCons (eLc (iEnumM (aCons (eMethN [24, 26, 38] 2 m_Blocks_followers (eVar 0) (aCons (eVar 3) aNil)) aNil)) (gT 2 (gsCons (gN 4) (gsCons (gN 5) gsNil))) (tOf (eOp gEq (eVar 5) (eVar 1))) (eNew .tup (aCons (eVar 3) (aCons (eVar 4) aNil))) [4, 5]) aNil)))) sNil) (sRet (eVar 2))))
def m_Blocks_edges_into : Fn := mFn 6 b_Blocks_edges_into
theorem sc_Blocks_edges_into : FnScope [("self" : Str), ("block" : Str), ("found" : Str), ("other" : Str), ("way" : Str), ("target" : Str)] [("self" : Str), ("block" : Str)] (defScope st_Blocks_edges_into) := ⟨rfl, rfl, rfl, by decide +kernel, rfl, by decide +kernel, by decide +kernel⟩
theorem ok_Blocks_edges_into {P : Program} {w : World} {K : PySem.W.Frag} {mg : Str → Option Value} {base : Heap} {C : Cst} {xB xS xT D1 D2 D3 : Nat → Addr} {f : Addr} {fd : FuncData} (T : TX P w K mg base C xB xS xT D1 D2 D3 misS misE) (o_getitem : OwnG P w K mg base C "__getitem__" [24, 26, 38] 4 2 m_Blocks___getitem__) (h_Blocks_followers : MethT P w K mg base C "followers" [24, 26, 38] 7 2 m_Blocks_followers) (Fd : Fun K "edges_into" "Blocks.edges_into" st_Blocks_edges_into f fd) : FnOk P w K mg base (L2.CX P w) 8 f fd [("self" : Str), ("block" : Str)] (spM C 2 m_Blocks_edges_into) := by
  have nd := sc_Blocks_edges_into.nd
  refine fn_ok Fd sc_Blocks_edges_into fun cdv A outer s H E hr => ?_
  exact (ss_cons (s_set 2 nd (e_lst a_nil)) (ss_cons (s_if (t_cmp (op_neD (u64 hr)) (im_ne _) (e_ownIx o_getitem (hr.mono (by decide)) (pass_of rfl rfl rfl rfl) (e_var 0) (e_var 1)) (e_tup a_nil)) (ss_one (s_for (passes_of rfl) rfl (i_range1 T.range (a_cons (e_len T.len (a_cons (e_attr T.sBlocks (e_var 0)) a_nil)) a_nil)) (g_name 3 nd) (ss_one (s_expr (e_bm .list PySem.F.plainAttrs_list PySem.F.slot_list_extend PySem.F.type_list_extend mt_extend im_extend (e_var 2) (a_cons (e_lc [(("way" : Str), 4), (("target" : Str), 5)] rfl nd (by kernel_rfl) (by decide) (i_enumT T.enum (a_cons (e_meth h_Blocks_followers (hr.mono (by decide)) (pass_of rfl rfl rfl rfl) (e_var 0) (a_cons (e_var 3) a_nil)) a_nil)) (fun _ _ _ _ _ => (g_tup rfl (gs_cons (g_name 4 nd) (gs_cons (g_name 5 nd) gs_nil)))) (fun _ _ _ _ _ => (p_one (t_cmp (op_eqD (u64 hr)) (im_eq _) (e_var 5) (e_var 1)))) (fun _ _ _ _ _ => (e_tup (a_cons (e_var 3) (a_cons (e_var 4) a_nil))))) a_nil)))))) ss_nil) (ss_one (s_ret (e_var 2)))))
end MR
set_option maxHeartbeats 4000000
namespace MR
open PySem PySem.Spec PyProof.Rows L2
abbrev st_Program___init__ : Stmt := inClass (top 26) 1
def b_Program___init__ : LS → LH → Out LF := (sCons (sIf (bNot (tOf (eCall 3 m_is_integer (aCons (eVar 1) (aCons (eC (.int 1)) (aCons (eC (.int 8)) aNil)))))) (sRaise1 3 (tx "part") (eC (.str [109, 97, 110, 121]))) sNil) (sCons (sIf (bNot (tOf (eCall 3 m_is_integer (aCons (eVar 3) (aCons (eC (.int 0)) (aCons (eB gMin (aCons (eVar 1) (aCons (eC (.int 3)) aNil))) aNil)))))) (sRaise1 3 (tx "part") (eC (.str [104, 97, 110, 100, 101, 100]))) sNil) (sCons (sIf (bNot (tOf (eCall 3 m_is_integer (aCons (eVar 4) (aCons (eC (.int 2)) (aCons (eC (.int 8)) aNil)))))) (sRaise1 3 (tx "part") (eC (.str [115, 112, 97, 110]))) sNil) (sCons (sIf (bOr (bNot (tOf (eUn (gIsTy .tuple) (eVar 2)))) (bNot (tOf (eChain gLe gLe (eC (.int 1)) (eB gLen (aCons (eVar 2) aNil)) (eC (.int 16)))))) (sRaise1 3 (tx "part") (eC (.str [98, 108, 111, 99, 107, 115]))) sNil) (sCons (sIf (bOr (bNot (tOf (eB (gQ true) (aCons (eLc (iSeq tupL (eVar 2)) (gN 5) bYes (eCall 4 m_is_plain_block (aCons (eVar 5) (aCons (eVar 1) (aCons (eVar 4) (aCons (eB gLen (aCons (eVar 2) aNil)) aNil))))) [5]) aNil)))) (bNot (tOf (eCall 1 m_are_reached (aCons (eVar 2) aNil))))) (sRaise1 3 (tx "part") (eC (.str [98, 108, 111, 99, 107, 115]))) sNil) (sCons (sSup 0 [26] 2 m_Blocks___init__ (aCons (eVar 2) aNil)) (sCons (sAttr ixMany (eVar 0) (eVar 1)) (sCons (sAttr ixHanded (eVar 0) (eVar 3)) (sAttr ixSpan (eVar 0) (eVar 4))))))))))
def m_Program___init__ : Fn := mFn 6 b_Program___init__
theorem sc_Program___init__ : SScope [("self" : Str), ("many" : Str), ("blocks" : Str), ("handed" : Str), ("span" : Str), ("block" : Str)] [("self" : Str), ("many" : Str), ("blocks" : Str), ("handed" : Str), ("span" : Str)] (defScope st_Program___init__) := sscope_by (by decide +kernel)
theorem ok_Program___init__ {P : Program} {w : World} {K : PySem.W.Frag} {mg : Str → Option Value} {base : Heap} {C : Cst} {xB xS xT D1 D2 D3 : Nat → Addr} {f cc cda Dp : Addr} {fd : FuncData} (T : TX P w K mg base C xB xS xT D1 D2 D3 misS misE) (c_is_integer : Cal P w K mg base C "is_integer" 3 3 m_is_integer) (c_is_plain_block : Cal P w K mg base C "is_plain_block" 5 4 m_is_plain_block) (c_are_reached : Cal P w K mg base C "are_reached" 4 1 m_are_reached) (SF : SupF P K mg f cc cda Dp "self") (SM : SupT P w K mg base C Dp "__init__" [26] 3 2 m_Blocks___init__) (Fd : FunS K "__init__" "Program.__init__" st_Program___init__ [(("handed" : Str), V.int 0), (("span" : Str), V.int 4)] f cc cda Dp fd) : FnOk P w K mg base (L2.CX P w) 6 f fd [("self" : Str), ("many" : Str), ("blocks" : Str), ("handed" : Str), ("span" : Str)] (spM C 5 m_Program___init__) := by
  have nd : ([("self" : Str), ("many" : Str), ("blocks" : Str), ("handed" : Str), ("span" : Str), ("block" : Str)] : List Str).Nodup := by decide
  refine fn_okS Fd sc_Program___init__ fun A outer s H E hr => ?_
  exact (at_cons (at1_of (s_if (t_not (t_val (e_call c_is_integer (hr.mono (by decide)) (pass_of rfl rfl rfl rfl) (a_cons (e_var 1) (a_cons e_int (a_cons (e_gc (.int 8) rfl T.mv) a_nil)))))) (ss_one (s_raise1 3 rfl (takes_of rfl rfl rfl rfl) T.xProgram (hr.mono (by decide)) (e_str [109, 97, 110, 121] rfl))) ss_nil)) (at_cons (at1_of (s_if (t_not (t_val (e_call c_is_integer (hr.mono (by decide)) (pass_of rfl rfl rfl rfl) (a_cons (e_var 3) (a_cons e_int (a_cons (e_callB (call_min2 rfl) im_min T.min (by decide +kernel) (a_cons (e_var 1) (a_cons (e_gc (.int 3) rfl T.mh) a_nil))) a_nil)))))) (ss_one (s_raise1 3 rfl (takes_of rfl rfl rfl rfl) T.xProgram (hr.mono (by decide)) (e_str [104, 97, 110, 100, 101, 100] rfl))) ss_nil)) (at_cons (at1_of (s_if (t_not (t_val (e_call c_is_integer (hr.mono (by decide)) (pass_of rfl rfl rfl rfl) (a_cons (e_var 4) (a_cons e_int (a_cons (e_gc (.int 8) rfl T.ms) a_nil)))))) (ss_one (s_raise1 3 rfl (takes_of rfl rfl rfl rfl) T.xProgram (hr.mono (by decide)) (e_str [115, 112, 97, 110] rfl))) ss_nil)) (at_cons (at1_of (s_if (w_t (w_or (t_not (t_val (e_isTy .tuple T.isi T.tuple (e_var 2) (by decide +kernel)))) (w_or1 (t_not (t_chain op_le op_le im_le im_le e_int (e_len T.len (a_cons (e_var 2) a_nil)) (e_gc (.int 16) rfl T.mb)))))) (ss_one (s_raise1 3 rfl (takes_of rfl rfl rfl rfl) T.xProgram (hr.mono (by decide)) (e_str [98, 108, 111, 99, 107, 115] rfl))) ss_nil)) (at_cons (at1_of (s_if (w_t (w_or (t_not (t_val (e_callB (cr_all rfl) (im_all _) T.all (by decide +kernel) (a_cons (e_lc [(("block" : Str), 5)] rfl nd (by kernel_rfl) (by decide) (i_tup (e_var 2)) (fun _ _ _ _ _ => (g_name 5 nd)) (fun _ _ _ _ _ => p_nil) (fun _ _ _ _ _ => (e_call c_is_plain_block (hr.mono (by decide)) passE0 (a_cons (e_var 5) (a_cons (e_var 1) (a_cons (e_var 4) (a_cons (e_len T.len (a_cons (e_var 2) a_nil)) a_nil))))))) a_nil)))) (w_or1 (t_not (t_val (e_call c_are_reached (hr.mono (by decide)) (pass_of rfl rfl rfl rfl) (a_cons (e_var 2) a_nil))))))) (ss_one (s_raise1 3 rfl (takes_of rfl rfl rfl rfl) T.xProgram (hr.mono (by decide)) (e_str [98, 108, 111, 99, 107, 115] rfl))) ss_nil)) (at_cons (at_sup SF SM sc_Program___init__ (hr.mono (by decide)) (a_cons (e_var 2) a_nil) (pass_of rfl rfl rfl rfl)) (at_cons (at1_of (s_attr T.sMany (e_var 0) (e_var 1))) (at_cons (at1_of (s_attr T.sHanded (e_var 0) (e_var 3))) (at_of (ss_one (s_attr T.sSpan (e_var 0) (e_var 4))))))))))))
abbrev st_Program_parts : Stmt := inClass (top 26) 3
def b_Program_parts : LS → LH → Out LF := (sRet (eNew .tup (aCons (eAttr ixMany (eVar 0)) (aCons (eAttr ixBlocks (eVar 0)) (aCons (eAttr ixHanded (eVar 0)) (aCons (eAttr ixSpan (eVar 0)) aNil))))))
def m_Program_parts : Fn := mFn 1 b_Program_parts
theorem sc_Program_parts : FnScope [("self" : Str)] [("self" : Str)] (defScope st_Program_parts) := ⟨rfl, rfl, rfl, by decide +kernel, rfl, by decide +kernel, by decide +kernel⟩
theorem ok_Program_parts {P : Program} {w : World} {K : PySem.W.Frag} {mg : Str → Option Value} {base : Heap} {C : Cst} {xB xS xT D1 D2 D3 : Nat → Addr} {f : Addr} {fd : FuncData} (T : TX P w K mg base C xB xS xT D1 D2 D3 misS misE)  (Fd : Fun K "parts" "Program.parts" st_Program_parts f fd) : FnOk P w K mg base (L2.CX P w) 3 f fd [("self" : Str)] (spM C 1 m_Program_parts) := by
  have nd := sc_Program_parts.nd
  refine fn_ok Fd sc_Program_parts fun cdv A outer s H E hr => ?_
  exact (ss_one (s_ret (e_tup (a_cons (e_attr T.sMany (e_var 0)) (a_cons (e_attr T.sBlocks (e_var 0)) (a_cons (e_attr T.sHanded (e_var 0)) (a_cons (e_attr T.sSpan (e_var 0)) a_nil)))))))
abbrev st_Program___eq__ : Stmt := inClass (top 26) 2
def b_Program___eq__ : LS → LH → Out LF := (sRet (eAnd (eIsCls (icOf 26) (eVar 1)) (eOp gEq (eMethN [26] 1 m_Program_parts (eVar 0) aNil) (eMethN [26] 1 m_Program_parts (eVar 1) aNil))))
def m_Program___eq__ : Fn := mFn 2 b_Program___eq__
theorem sc_Program___eq__ : FnScope [("self" : Str), ("other" : Str)] [("self" : Str), ("other" : Str)] (defScope st_Program___eq__) := ⟨rfl, rfl, rfl, by decide +kernel, rfl, by decide +kernel, by decide +kernel⟩
theorem ok_Program___eq__ {P : Program} {w : World} {K : PySem.W.Frag} {mg : Str → Option Value} {base : Heap} {C : Cst} {xB xS xT D1 D2 D3 : Nat → Addr} {f : Addr} {fd : FuncData} (T : TX P w K mg base C xB xS xT D1 D2 D3 misS misE) (h_Program_parts : MethT P w K mg base C "parts" [26] 3 1 m_Program_parts) (Fd : Fun K "__eq__" "Program.__eq__" st_Program___eq__ f fd) : FnOk P w K mg base (L2.CX P w) 4 f fd [("self" : Str), ("other" : Str)] (spM C 2 m_Program___eq__) := by
  have nd := sc_Program___eq__.nd
  refine fn_ok Fd sc_Program___eq__ fun cdv A outer s H E hr => ?_
  exact (ss_one (s_ret (e_and (e_isCls T.kProgram T.isi T.cProgram (e_var 1)) (e_one (e_cmp (op_eqD (u64 hr)) (im_eq _) (e_meth0 h_Program_parts (hr.mono (by decide)) (pass_of rfl rfl rfl rfl) (e_var 0)) (e_meth0 h_Program_parts (hr.mono (by decide)) (pass_of rfl rfl rfl rfl) (e_var 1)))))))
abbrev st_Program_with_blocks : Stmt := inClass (top 26) 4
def b_Program_with_blocks : LS → LH → Out LF := (sRet (eMakeK 26 2 ([("handed" : Str), ("span" : Str)] : List Str).length m_Program___init__ (aCons (eAttr ixMany (eVar 0)) (aCons (eVar 1) aNil)) (aCons (eAttr ixHanded (eVar 0)) (aCons (eAttr ixSpan (eVar 0)) aNil))))
def m_Program_with_blocks : Fn := mFn 2 b_Program_with_blocks
theorem sc_Program_with_blocks : FnScope [("self" : Str), ("blocks" : Str)] [("self" : Str), ("blocks" : Str)] (defScope st_Program_with_blocks) := ⟨rfl, rfl, rfl, by decide +kernel, rfl, by decide +kernel, by decide +kernel⟩
theorem ok_Program_with_blocks {P : Program} {w : World} {K : PySem.W.Frag} {mg : Str → Option Value} {base : Heap} {C : Cst} {xB xS xT D1 D2 D3 : Nat → Addr} {f : Addr} {fd : FuncData} (T : TX P w K mg base C xB xS xT D1 D2 D3 misS misE) (kk_Program : MkK P w K mg base C "Program" 26 6 2 [("handed" : Str), ("span" : Str)] m_Program___init__) (Fd : Fun K "with_blocks" "Program.with_blocks" st_Program_with_blocks f fd) : FnOk P w K mg base (L2.CX P w) 8 f fd [("self" : Str), ("blocks" : Str)] (spM C 2 m_Program_with_blocks) := by
  have nd := sc_Program_with_blocks.nd
  refine fn_ok Fd sc_Program_with_blocks fun cdv A outer s H E hr => ?_
  exact (ss_one (s_ret (e_makeK kk_Program (hr.mono (by decide)) (pass_of rfl rfl rfl rfl) (a_cons (e_attr T.sMany (e_var 0)) (a_cons (e_var 1) a_nil)) (k_cons (e_attr T.sHanded (e_var 0)) (k_cons (e_attr T.sSpan (e_var 0)) k_nil)))))
abbrev st_check_program : Stmt := top 27
def b_check_program : LS → LH → Out LF := (sIf (bNot (tOf (eIsCls (icOf 26) (eVar 0)))) (sRaise1 3 (tx "part") (eC .non)) sNil)
def m_check_program : Fn := mFn 1 b_check_program
theorem sc_check_program : FnScope [("program" : Str)] [("program" : Str)] (defScope st_check_program) := ⟨rfl, rfl, rfl, by decide +kernel, rfl, by decide +kernel, by decide +kernel⟩
theorem ok_check_program {P : Program} {w : World} {K : PySem.W.Frag} {mg : Str → Option Value} {base : Heap} {C : Cst} {xB xS xT D1 D2 D3 : Nat → Addr} {f : Addr} {fd : FuncData} (T : TX P w K mg base C xB xS xT D1 D2 D3 misS misE)  (Fd : Fun K "check_program" "check_program" st_check_program f fd) : FnOk P w K mg base (L2.CX P w) 3 f fd [("program" : Str)] (spM C 1 m_check_program) := by
  have nd := sc_check_program.nd
  refine fn_ok Fd sc_check_program fun cdv A outer s H E hr => ?_
  exact (ss_one (s_if (t_not (t_val (e_isCls T.kProgram T.isi T.cProgram (e_var 0)))) (ss_one (s_raise1 3 rfl (takes_of rfl rfl rfl rfl) T.xProgram (hr.mono (by decide)) e_non)) ss_nil))
end MR
set_option maxHeartbeats 4000000
namespace MR
open PySem PySem.Spec PyProof.Rows L2
abbrev st_is_single_block : Stmt := top 32
def b_is_single_block : LS → LH → Out LF := (sCons (sIf (bOr (bNot (tOf (eUn (gIsTy .tuple) (eVar 0)))) (tOf (eOp gNe (eB gLen (aCons (eVar 0) aNil)) (eC (.int 3))))) (sRet (eC (.bl false))) sNil) (sCons (sIf (bOr (bNot (tOf (eUn (gIsTy .tuple) (eOp gIx (eVar 0) (eC (.int 0)))))) (bNot (tOf (eB (gQ true) (aCons (eLc (iSeq tupL (eOp gIx (eVar 0) (eC (.int 0)))) (gN 5) bYes (fun _ _ => .no) [5]) aNil))))) (sRet (eC (.bl false))) sNil) (sCons (sIf (bOr (bNot (tOf (eUn (gIsTy .tuple) (eOp gIx (eVar 0) (eC (.int 1)))))) (tOf (eOp gGt (eB gLen (aCons (eOp gIx (eVar 0) (eC (.int 1))) aNil)) (eC (.int 24))))) (sRet (eC (.bl false))) sNil) (sRet (eAnd (eB (gQ true) (aCons (eLc (iSeq tupL (eOp gIx (eVar 0) (eC (.int 1)))) (gN 4) bYes (eCall 3 m_is_row (aCons (eVar 4) (aCons (eVar 1) (aCons (eVar 2) aNil)))) [4]) aNil)) (eCall 3 m_is_end (aCons (eOp gIx (eVar 0) (eC (.int 2))) (aCons (eVar 1) (aCons (eVar 3) aNil)))))))))
def m_is_single_block : Fn := mFn 6 b_is_single_block
theorem sc_is_single_block : FnScope [("thing" : Str), ("many" : Str), ("span" : Str), ("size" : Str), ("row" : Str), ("join" : Str)] [("thing" : Str), ("many" : Str), ("span" : Str), ("size" : Str)] (defScope st_is_single_block) := ⟨rfl, rfl, rfl, by decide +kernel, rfl, by decide +kernel, by decide +kernel⟩
theorem ok_is_single_block {P : Program} {w : World} {K : PySem.W.Frag} {mg : Str → Option Value} {base : Heap} {C : Cst} {xB xS xT D1 D2 D3 : Nat → Addr} {f : Addr} {fd : FuncData} (T : TX P w K mg base C xB xS xT D1 D2 D3 misS misE) (c_is_row : Cal P w K mg base C "is_row" 4 3 m_is_row) (c_is_end : Cal P w K mg base C "is_end" 4 3 m_is_end) (Fd : Fun K "is_single_block" "is_single_block" st_is_single_block f fd) : FnOk P w K mg base (L2.CX P w) 5 f fd [("thing" : Str), ("many" : Str), ("span" : Str), ("size" : Str)] (spM C 4 m_is_single_block) := by
  have nd := sc_is_single_block.nd
  refine fn_ok Fd sc_is_single_block fun cdv A outer s H E hr => ?_
  exact (ss_cons (s_if (w_t (w_or (t_not (t_val (e_isTy .tuple T.isi T.tuple (e_var 0) (by decide +kernel)))) (w_or1 (t_cmp (op_neD (u64 hr)) (im_ne _) (e_len T.len (a_cons (e_var 0) a_nil)) e_int)))) (ss_one (s_ret e_bl)) ss_nil) (ss_cons (s_if (w_t (w_or (t_not (t_val (e_isTy .tuple T.isi T.tuple (e_ix (e_var 0) e_int) (by decide +kernel)))) (w_or1 (t_not (t_val (e_callB (cr_all rfl) (im_all _) T.all (by decide +kernel) (a_cons (e_lc [(("join" : Str), 5)] rfl nd (by kernel_rfl) (by decide) (i_tup (e_ix (e_var 0) e_int)) (fun _ _ _ _ _ => (g_name 5 nd)) (fun _ _ _ _ _ => p_nil) (fun _ _ _ _ _ => e_no)) a_nil))))))) (ss_one (s_ret e_bl)) ss_nil) (ss_cons (s_if (w_t (w_or (t_not (t_val (e_isTy .tuple T.isi T.tuple (e_ix (e_var 0) e_int) (by decide +kernel)))) (w_or1 (t_cmp op_gt im_gt (e_len T.len (a_cons (e_ix (e_var 0) e_int) a_nil)) (e_gc (.int 24) rfl T.m2))))) (ss_one (s_ret e_bl)) ss_nil) (ss_one (s_ret (e_and (e_callB (cr_all rfl) (im_all _) T.all (by decide +kernel) (a_cons (e_lc [(("row" : Str), 4)] rfl nd (by kernel_rfl) (by decide) (i_tup (e_ix (e_var 0) e_int)) (fun _ _ _ _ _ => (g_name 4 nd)) (fun _ _ _ _ _ => p_nil) (fun _ _ _ _ _ => (e_call c_is_row (hr.mono (by decide)) passE0 (a_cons (e_var 4) (a_cons (e_var 1) (a_cons (e_var 2) a_nil)))))) a_nil)) (e_one (e_call c_is_end (hr.mono (by decide)) (pass_of rfl rfl rfl rfl) (a_cons (e_ix (e_var 0) e_int) (a_cons (e_var 1) (a_cons (e_var 3) a_nil)))))))))))
abbrev st_definitions_of : Stmt := top 33
def b_definitions_of : LS → LH → Out LF := (sCons (sAsg (eNew (fun _ => .dic []) aNil) (gN 2)) (sCons (sFor (iSeq tupL (eVar 0)) (gN 3) (sDrop (eBM .list gAppend (eSetd (eVar 2) (eVar 3) (eNew .lst aNil)) (aCons (eNew .tup (aCons (eC (.int 0)) (aCons (eC (.int 0)) aNil))) aNil)))) (sCons (sFor (iEnumM (aCons (eVar 1) aNil)) (gT 2 (gsCons (gN 4) (gsCons (gT 3 (gsCons (gN 5) (gsCons (gN 6) (gsCons (gN 7) gsNil)))) gsNil))) (sCons (sFor (iSeq tupL (eVar 5)) (gT 2 (gsCons (gN 3) (gsCons (gN 8) gsNil))) (sDrop (eBM .list gAppend (eSetd (eVar 2) (eVar 3) (eNew .lst aNil)) (aCons (eNew .tup (aCons (eVar 4) (aCons (eC (.int 0)) aNil))) aNil)))) (sFor (iEnumM (aCons (eVar 6) aNil)) (gT 2 (gsCons (gN 9) (gsCons (gN 10) gsNil))) (sIf (tOf (eUn gNotN (eCall 1 m_defined_by (aCons (eVar 10) aNil)))) (sDrop (eBM .list gAppend (eSetd (eVar 2) (eCall 1 m_defined_by (aCons (eVar 10) aNil)) (eNew .lst aNil)) (aCons (eNew .tup (aCons (eVar 4) (aCons (eOp gAdd (eVar 9) (eC (.int 1))) aNil))) aNil))) sNil)))) (sRet (eVar 2)))))
def m_definitions_of : Fn := mFn 11 b_definitions_of
theorem sc_definitions_of : FnScope [("handed" : Str), ("blocks" : Str), ("found" : Str), ("one" : Str), ("block" : Str), ("joins" : Str), ("rows" : Str), ("end" : Str), ("operands" : Str), ("done" : Str), ("row" : Str)] [("handed" : Str), ("blocks" : Str)] (defScope st_definitions_of) := ⟨rfl, rfl, rfl, by decide +kernel, rfl, by decide +kernel, by decide +kernel⟩
theorem ok_definitions_of {P : Program} {w : World} {K : PySem.W.Frag} {mg : Str → Option Value} {base : Heap} {C : Cst} {xB xS xT D1 D2 D3 : Nat → Addr} {f : Addr} {fd : FuncData} (T : TX P w K mg base C xB xS xT D1 D2 D3 misS misE) (c_defined_by : Cal P w K mg base C "defined_by" 3 1 m_defined_by) (Fd : Fun K "definitions_of" "definitions_of" st_definitions_of f fd) : FnOk P w K mg base (L2.CX P w) 4 f fd [("handed" : Str), ("blocks" : Str)] (spM C 2 m_definitions_of) := by
  have nd := sc_definitions_of.nd
  refine fn_ok Fd sc_definitions_of fun cdv A outer s H E hr => ?_
  exact (ss_cons (s_set 2 nd e_dnew) (ss_cons (s_for (passes_of rfl) rfl (i_tup (e_var 0)) (g_name 3 nd) (ss_one (s_expr (e_bm .list PySem.F.plainAttrs_list PySem.F.slot_list_append PySem.F.type_list_append mt_append im_append (e_setd (e_var 2) (e_var 3) (e_lst a_nil)) (a_cons (e_tup (a_cons e_int (a_cons e_int a_nil))) a_nil))))) (ss_cons (s_for (passes_of rfl) rfl (i_enumT T.enum (a_cons (e_var 1) a_nil)) (g_tup rfl (gs_cons (g_name 4 nd) (gs_cons (g_tup rfl (gs_cons (g_name 5 nd) (gs_cons (g_name 6 nd) (gs_cons (g_name 7 nd) gs_nil)))) gs_nil))) (ss_cons (s_for (passes_of rfl) rfl (i_tup (e_var 5)) (g_tup rfl (gs_cons (g_name 3 nd) (gs_cons (g_name 8 nd) gs_nil))) (ss_one (s_expr (e_bm .list PySem.F.plainAttrs_list PySem.F.slot_list_append PySem.F.type_list_append mt_append im_append (e_setd (e_var 2) (e_var 3) (e_lst a_nil)) (a_cons (e_tup (a_cons (e_var 4) (a_cons e_int a_nil))) a_nil))))) (ss_one (s_for (passes_of rfl) rfl (i_enumT T.enum (a_cons (e_var 6) a_nil)) (g_tup rfl (gs_cons (g_name 9 nd) (gs_cons (g_name 10 nd) gs_nil))) (ss_one (s_if (t_notN (e_call c_defined_by (hr.mono (by decide)) (pass_of rfl rfl rfl rfl) (a_cons (e_var 10) a_nil))) (ss_one (s_expr (e_bm .list PySem.F.plainAttrs_list PySem.F.slot_list_append PySem.F.type_list_append mt_append im_append (e_setd (e_var 2) (e_call c_defined_by (hr.mono (by decide)) (pass_of rfl rfl rfl rfl) (a_cons (e_var 10) a_nil)) (e_lst a_nil)) (a_cons (e_tup (a_cons (e_var 4) (a_cons (e_op op_add im_add (e_var 9) e_int) a_nil))) a_nil)))) ss_nil)))))) (ss_one (s_ret (e_var 2))))))
abbrev st_are_joined : Stmt := top 34
def b_are_joined : LS → LH → Out LF := (sCons (sAsg (eMake 24 2 m_Blocks___init__ [] (aCons (eVar 0) aNil)) (gN 1)) (sCons (sFor (iEnumM (aCons (eVar 0) aNil)) (gT 2 (gsCons (gN 2) (gsCons (gT 3 (gsCons (gN 4) (gsCons (gN 5) (gsCons (gN 6) gsNil)))) gsNil))) (sCons (sAsg (eB gLen (aCons (eMethN [24, 26, 38] 2 m_Blocks_edges_into (eVar 1) (aCons (eVar 2) aNil)) aNil)) (gN 3)) (sIf (bOr (bNot (tOf (eB (gQ true) (aCons (eLc (iSeq tupL (eVar 4)) (gT 2 (gsCons (gN 7) (gsCons (gN 8) gsNil))) bYes (eOp gEq (eB gLen (aCons (eVar 8) aNil)) (eVar 3)) [7, 8]) aNil)))) (bAnd (tOf (eOp gEq (eVar 3) (eC (.int 0)))) (tOf (eOp gNe (eVar 4) (eNew .tup aNil))))) (sRet (eC (.bl false))) sNil))) (sRet (eC (.bl true)))))
def m_are_joined : Fn := mFn 9 b_are_joined
theorem sc_are_joined : FnScope [("blocks" : Str), ("graph" : Str), ("block" : Str), ("many" : Str), ("joins" : Str), ("rows" : Str), ("end" : Str), ("one" : Str), ("operands" : Str)] [("blocks" : Str)] (defScope st_are_joined) := ⟨rfl, rfl, rfl, by decide +kernel, rfl, by decide +kernel, by decide +kernel⟩
theorem ok_are_joined {P : Program} {w : World} {K : PySem.W.Frag} {mg : Str → Option Value} {base : Heap} {C : Cst} {xB xS xT D1 D2 D3 : Nat → Addr} {f : Addr} {fd : FuncData} (T : TX P w K mg base C xB xS xT D1 D2 D3 misS misE) (k_Blocks : MkT P w K mg base C "Blocks" 24 3 2 m_Blocks___init__ []) (h_Blocks_edges_into : MethT P w K mg base C "edges_into" [24, 26, 38] 8 2 m_Blocks_edges_into) (Fd : Fun K "are_joined" "are_joined" st_are_joined f fd) : FnOk P w K mg base (L2.CX P w) 9 f fd [("blocks" : Str)] (spM C 1 m_are_joined) := by
  have nd := sc_are_joined.nd
  refine fn_ok Fd sc_are_joined fun cdv A outer s H E hr => ?_
  exact (ss_cons (s_set 1 nd (e_make k_Blocks (hr.mono (by decide)) (pass_of rfl rfl rfl rfl) (a_cons (e_var 0) a_nil))) (ss_cons (s_for (passes_of rfl) rfl (i_enumT T.enum (a_cons (e_var 0) a_nil)) (g_tup rfl (gs_cons (g_name 2 nd) (gs_cons (g_tup rfl (gs_cons (g_name 4 nd) (gs_cons (g_name 5 nd) (gs_cons (g_name 6 nd) gs_nil)))) gs_nil))) (ss_cons (s_set 3 nd (e_len T.len (a_cons (e_meth h_Blocks_edges_into (hr.mono (by decide)) (pass_of rfl rfl rfl rfl) (e_var 1) (a_cons (e_var 2) a_nil)) a_nil))) (ss_one (s_if (w_t (w_or (t_not (t_val (e_callB (cr_all rfl) (im_all _) T.all (by decide +kernel) (a_cons (e_lc [(("one" : Str), 7), (("operands" : Str), 8)] rfl nd (by kernel_rfl) (by decide) (i_tup (e_var 4)) (fun _ _ _ _ _ => (g_tup rfl (gs_cons (g_name 7 nd) (gs_cons (g_name 8 nd) gs_nil)))) (fun _ _ _ _ _ => p_nil) (fun _ _ _ _ _ => (e_cmp (op_eqD (u64 hr)) (im_eq _) (e_len T.len (a_cons (e_var 8) a_nil)) (e_var 3)))) a_nil)))) (w_or1 (w_t (w_and (t_cmp (op_eqD (u64 hr)) (im_eq _) (e_var 3) e_int) (w_and1 (t_cmp (op_neD (u64 hr)) (im_ne _) (e_var 4) (e_tup a_nil)))))))) (ss_one (s_ret e_bl)) ss_nil)))) (ss_one (s_ret e_bl))))
end MR
set_option maxHeartbeats 4000000
namespace MR
open PySem PySem.Spec PyProof.Rows L2
abbrev st_at_end : Stmt := top 36
def b_at_end : LS → LH → Out LF := (sCons (sLock (eVar 0) (sAsg (eDc (iDict (fun p => lvK p.1) (eVar 0)) (gN 3) bYes (eVar 3) (eC (.bl true)) [3]) (gN 2))) (sCons (sDrop (eBM .dict gUpdD (eVar 2) (aCons (eDc (iSeq tupL (eOp gIx (eVar 1) (eC (.int 1)))) (gN 4) (tOf (eUn gNotN (eCall 1 m_defined_by (aCons (eVar 4) aNil)))) (eCall 1 m_defined_by (aCons (eVar 4) aNil)) (eC (.bl true)) [4]) aNil))) (sRet (eVar 2))))
def m_at_end : Fn := mFn 5 b_at_end
theorem sc_at_end : FnScope [("known" : Str), ("block" : Str), ("found" : Str), ("one" : Str), ("row" : Str)] [("known" : Str), ("block" : Str)] (defScope st_at_end) := ⟨rfl, rfl, rfl, by decide +kernel, rfl, by decide +kernel, by decide +kernel⟩
theorem ok_at_end {P : Program} {w : World} {K : PySem.W.Frag} {mg : Str → Option Value} {base : Heap} {C : Cst} {xB xS xT D1 D2 D3 : Nat → Addr} {f : Addr} {fd : FuncData} (T : TX P w K mg base C xB xS xT D1 D2 D3 misS misE) (c_defined_by : Cal P w K mg base C "defined_by" 3 1 m_defined_by) (Fd : Fun K "at_end" "at_end" st_at_end f fd) : FnOk P w K mg base (L2.CX P w) 4 f fd [("known" : Str), ("block" : Str)] (spM C 2 m_at_end) := by
  have nd := sc_at_end.nd
  refine fn_ok Fd sc_at_end fun cdv A outer s H E hr => ?_
  exact (ss_cons (s_lock (eVar 0) fun _ _ => (s_setDc [(("one" : Str), 3)] rfl nd (by kernel_rfl) (by decide) (i_keys (e_var 0)) (fun _ _ _ _ _ => (g_name 3 nd)) (fun _ _ _ _ _ => p_nil) (fun _ _ _ _ _ => (e_var 3)) (fun _ _ _ _ _ => e_bl))) (ss_cons (s_expr (e_bm .dict PySem.F.plainAttrs_dict PySem.F.slot_dict_update PySem.F.type_dict_update mt_updD im_updD (e_var 2) (a_cons (e_dc [(("row" : Str), 4)] rfl nd (by kernel_rfl) (by decide) (i_tup (e_ix (e_var 1) e_int)) (fun _ _ _ _ _ => (g_name 4 nd)) (fun _ _ _ _ _ => (p_one (t_notN (e_call c_defined_by (hr.mono (by decide)) passE0 (a_cons (e_var 4) a_nil))))) (fun _ _ _ _ _ => (e_call c_defined_by (hr.mono (by decide)) passE0 (a_cons (e_var 4) a_nil))) (fun _ _ _ _ _ => e_bl)) a_nil))) (ss_one (s_ret (e_var 2)))))
abbrev st_known_behind : Stmt := top 35
def b_known_behind : LS → LH → Out LF := (sCons (sAsg (eNew .tup (aCons (eMake 24 2 m_Blocks___init__ [] (aCons (eVar 1) aNil)) (aCons (eCall 2 m_definitions_of (aCons (eVar 0) (aCons (eVar 1) aNil))) aNil))) (gT 2 (gsCons (gN 4) (gsCons (gN 5) gsNil)))) (sCons (sAsg (eDc (iRange1 (aCons (eB gLen (aCons (eVar 1) aNil)) aNil)) (gN 6) bYes (eVar 6) (eB gDict (aCons (eVar 5) aNil)) [6]) (gN 2)) (sCons (sDPutM (eVar 2) (eC (.int 0)) (eDc (iSeq tupL (eVar 0)) (gN 7) bYes (eVar 7) (eC (.bl true)) [7])) (sCons (sAsg (eC (.bl true)) (gN 3)) (sCons (loopW (tOf (eVar 3)) (sCons (sAsg (eC (.bl false)) (gN 3)) (sFor (iRange2 (aCons (eC (.int 1)) (aCons (eB gLen (aCons (eVar 1) aNil)) aNil))) (gN 6) (sCons (sAsg (eLc (iSeq lstL (eMethN [24, 26, 38] 2 m_Blocks_edges_into (eVar 4) (aCons (eVar 6) aNil))) (gT 2 (gsCons (gN 10) (gsCons (gN 11) gsNil))) bYes (eCall 2 m_at_end (aCons (eOp gDGet (eVar 2) (eVar 10)) (aCons (eOp gIx (eVar 1) (eVar 10)) aNil))) [10, 11]) (gN 8)) (sCons (sLock (eOp gIx (eVar 8) (eC (.int 0))) (sAsg (eDc (iDict (fun p => lvK p.1) (eOp gIx (eVar 8) (eC (.int 0)))) (gN 7) (tOf (eB (gQ true) (aCons (eLc (iSeq lstL (eVar 8)) (gN 13) bYes (eOp (gDIn false) (eVar 7) (eVar 13)) [13]) aNil))) (eVar 7) (eC (.bl true)) [7]) (gN 9))) (sCons (sDrop (eBM .dict gUpdD (eVar 9) (aCons (eDc (iSeq tupL (eOp gIx (eOp gIx (eVar 1) (eVar 6)) (eC (.int 0)))) (gT 2 (gsCons (gN 7) (gsCons (gN 12) gsNil))) bYes (eVar 7) (eC (.bl true)) [7, 12]) aNil))) (sIf (tOf (eOp gNe (eB gLen (aCons (eVar 9) aNil)) (eB gLen (aCons (eOp gDGet (eVar 2) (eVar 6)) aNil)))) (fun _ _ => .no) sNil)))))) 1000) (sRet (eVar 2)))))))
def m_known_behind : Fn := mFn 14 b_known_behind
theorem sc_known_behind : FnScope [("handed" : Str), ("blocks" : Str), ("known" : Str), ("has_changed" : Str), ("graph" : Str), ("every" : Str), ("block" : Str), ("one" : Str), ("rows" : Str), ("some" : Str), ("other" : Str), ("way" : Str), ("operands" : Str), ("row" : Str)] [("handed" : Str), ("blocks" : Str)] (defScope st_known_behind) := ⟨rfl, rfl, rfl, by decide +kernel, rfl, by decide +kernel, by decide +kernel⟩
theorem ok_known_behind {P : Program} {w : World} {K : PySem.W.Frag} {mg : Str → Option Value} {base : Heap} {C : Cst} {xB xS xT D1 D2 D3 : Nat → Addr} {f : Addr} {fd : FuncData} (T : TX P w K mg base C xB xS xT D1 D2 D3 misS misE) (c_definitions_of : Cal P w K mg base C "definitions_of" 4 2 m_definitions_of) (k_Blocks : MkT P w K mg base C "Blocks" 24 3 2 m_Blocks___init__ []) (h_Blocks_edges_into : MethT P w K mg base C "edges_into" [24, 26, 38] 8 2 m_Blocks_edges_into) (c_at_end : Cal P w K mg base C "at_end" 4 2 m_at_end) (Fd : Fun K "known_behind" "known_behind" st_known_behind f fd) : FnOk P w K mg base (L2.CX P w) 9 f fd [("handed" : Str), ("blocks" : Str)] (spM C 2 m_known_behind) := by
  have nd := sc_known_behind.nd
  refine fn_ok Fd sc_known_behind fun cdv A outer s H E hr => ?_
  exact (ss_cons (s_asg (e_tup (a_cons (e_make k_Blocks (hr.mono (by decide)) (pass_of rfl rfl rfl rfl) (a_cons (e_var 1) a_nil)) (a_cons (e_call c_definitions_of (hr.mono (by decide)) (pass_of rfl rfl rfl rfl) (a_cons (e_var 0) (a_cons (e_var 1) a_nil))) a_nil))) (g_tup rfl (gs_cons (g_name 4 nd) (gs_cons (g_name 5 nd) gs_nil)))) (ss_cons (s_set 2 nd (e_dc [(("block" : Str), 6)] rfl nd (by kernel_rfl) (by decide) (i_range1 T.range (a_cons (e_len T.len (a_cons (e_var 1) a_nil)) a_nil)) (fun _ _ _ _ _ => (g_name 6 nd)) (fun _ _ _ _ _ => p_nil) (fun _ _ _ _ _ => (e_var 6)) (fun _ _ _ _ _ => (e_callTy (call_dictM rfl) (im_dict _) T.dict (by decide +kernel) (a_cons (e_var 5) a_nil))))) (ss_cons (s_dput (u1 hr) (e_var 2) e_int (e_dc [(("one" : Str), 7)] rfl nd (by kernel_rfl) (by decide) (i_tup (e_var 0)) (fun _ _ _ _ _ => (g_name 7 nd)) (fun _ _ _ _ _ => p_nil) (fun _ _ _ _ _ => (e_var 7)) (fun _ _ _ _ _ => e_bl))) (ss_cons (s_set 3 nd e_bl) (ss_cons (s_while (passes_of rfl) (t_val (e_var 3)) (ss_cons (s_set 3 nd e_bl) (ss_one (s_for (passes_of rfl) rfl (i_range2 T.range (a_cons e_int (a_cons (e_len T.len (a_cons (e_var 1) a_nil)) a_nil))) (g_name 6 nd) (ss_cons (s_set 8 nd (e_lc [(("other" : Str), 10), (("way" : Str), 11)] rfl nd (by kernel_rfl) (by decide) (i_lst (e_meth h_Blocks_edges_into (hr.mono (by decide)) (pass_of rfl rfl rfl rfl) (e_var 4) (a_cons (e_var 6) a_nil))) (fun _ _ _ _ _ => (g_tup rfl (gs_cons (g_name 10 nd) (gs_cons (g_name 11 nd) gs_nil)))) (fun _ _ _ _ _ => p_nil) (fun _ _ _ _ _ => (e_call c_at_end (hr.mono (by decide)) passE0 (a_cons (e_dget (u1 hr) (e_var 2) (e_var 10)) (a_cons (e_ix (e_var 1) (e_var 10)) a_nil)))))) (ss_cons (s_lock (eOp gIx (eVar 8) (eC (.int 0))) fun _ _ => (s_setDc [(("one" : Str), 7)] rfl nd (by kernel_rfl) (by decide) (i_keys (e_ix (e_var 8) e_int)) (fun _ _ _ _ _ => (g_name 7 nd)) (fun _ _ _ _ _ => (p_one (t_val (e_callB (cr_all rfl) (im_all _) T.all (by decide +kernel) (a_cons (e_lc [(("row" : Str), 13)] rfl nd (by kernel_rfl) (by decide) (i_lst (e_var 8)) (fun _ _ _ _ _ => (g_name 13 nd)) (fun _ _ _ _ _ => p_nil) (fun _ _ _ _ _ => (e_din (u1 hr) (e_var 7) (e_var 13)))) a_nil))))) (fun _ _ _ _ _ => (e_var 7)) (fun _ _ _ _ _ => e_bl))) (ss_cons (s_expr (e_bm .dict PySem.F.plainAttrs_dict PySem.F.slot_dict_update PySem.F.type_dict_update mt_updD im_updD (e_var 9) (a_cons (e_dc [(("one" : Str), 7), (("operands" : Str), 12)] rfl nd (by kernel_rfl) (by decide) (i_tup (e_ix (e_ix (e_var 1) (e_var 6)) e_int)) (fun _ _ _ _ _ => (g_tup rfl (gs_cons (g_name 7 nd) (gs_cons (g_name 12 nd) gs_nil)))) (fun _ _ _ _ _ => p_nil) (fun _ _ _ _ _ => (e_var 7)) (fun _ _ _ _ _ => e_bl)) a_nil))) (ss_one (s_if (t_cmp (op_neD (u64 hr)) (im_ne _) (e_len T.len (a_cons (e_var 9) a_nil)) (e_len T.len (a_cons (e_dget (u1 hr) (e_var 2) (e_var 6)) a_nil))) ss_no ss_nil))))))))) (ss_one (s_ret (e_var 2))))))))
abbrev st_are_strict : Stmt := top 37
def b_are_strict : LS → LH → Out LF := (sCons (sPar2 2 3 (aCons (eCall 2 m_known_behind (aCons (eVar 0) (aCons (eVar 1) aNil))) (aCons (eMake 24 2 m_Blocks___init__ [] (aCons (eVar 1) aNil)) aNil))) (sCons (sFor (iEnumM (aCons (eVar 1) aNil)) (gT 2 (gsCons (gN 4) (gsCons (gT 3 (gsCons (gN 7) (gsCons (gN 8) (gsCons (gN 9) gsNil)))) gsNil))) (sCons (sAsg (eLock (eOp gDGet (eVar 2) (eVar 4)) (eDc (iDict (fun p => lvK p.1) (eOp gDGet (eVar 2) (eVar 4))) (gN 10) bYes (eVar 10) (eC (.bl true)) [10])) (gN 5)) (sCons (sFor (iSeq tupL (eVar 8)) (gN 6) (sCons (sIf (bNot (tOf (eB (gQ true) (aCons (eLc (iSeq tupL (eCall 1 m_used_by (aCons (eVar 6) aNil))) (gN 10) bYes (eOp (gDIn false) (eVar 10) (eVar 5)) [10]) aNil)))) (sRet (eC (.bl false))) sNil) (sDPutN (eVar 5) (eCall 1 m_defined_by (aCons (eVar 6) aNil)) (eC (.bl true))))) (sCons (sIf (bNot (tOf (eB (gQ true) (aCons (eLc (iSeq tupL (eCall 1 m_used_by (aCons (eVar 9) aNil))) (gN 10) bYes (eOp (gDIn false) (eVar 10) (eVar 5)) [10]) aNil)))) (sRet (eC (.bl false))) sNil) (sFor (iSeq tupL (eVar 7)) (gT 2 (gsCons (gN 10) (gsCons (gN 11) gsNil))) (fun _ _ => .no)))))) (sRet (eC (.bl true)))))
def m_are_strict : Fn := mFn 15 b_are_strict
theorem sc_are_strict : FnScope [("handed" : Str), ("blocks" : Str), ("known" : Str), ("graph" : Str), ("block" : Str), ("here" : Str), ("row" : Str), ("joins" : Str), ("rows" : Str), ("end" : Str), ("one" : Str), ("operands" : Str), ("operand" : Str), ("other" : Str), ("way" : Str)] [("handed" : Str), ("blocks" : Str)] (defScope st_are_strict) := ⟨rfl, rfl, rfl, by decide +kernel, rfl, by decide +kernel, by decide +kernel⟩
theorem ok_are_strict {P : Program} {w : World} {K : PySem.W.Frag} {mg : Str → Option Value} {base : Heap} {C : Cst} {xB xS xT D1 D2 D3 : Nat → Addr} {f : Addr} {fd : FuncData} (T : TX P w K mg base C xB xS xT D1 D2 D3 misS misE) (k_Blocks : MkT P w K mg base C "Blocks" 24 3 2 m_Blocks___init__ []) (c_known_behind : Cal P w K mg base C "known_behind" 9 2 m_known_behind) (c_used_by : Cal P w K mg base C "used_by" 3 1 m_used_by) (c_defined_by : Cal P w K mg base C "defined_by" 3 1 m_defined_by) (Fd : Fun K "are_strict" "are_strict" st_are_strict f fd) : FnOk P w K mg base (L2.CX P w) 10 f fd [("handed" : Str), ("blocks" : Str)] (spM C 2 m_are_strict) := by
  have nd := sc_are_strict.nd
  refine fn_ok Fd sc_are_strict fun cdv A outer s H E hr => ?_
  exact (ss_cons (s_par2 2 3 rfl nd (a_cons (e_call c_known_behind (hr.mono (by decide)) (pass_of rfl rfl rfl rfl) (a_cons (e_var 0) (a_cons (e_var 1) a_nil))) (a_cons (e_make k_Blocks (hr.mono (by decide)) (pass_of rfl rfl rfl rfl) (a_cons (e_var 1) a_nil)) a_nil))) (ss_cons (s_for (passes_of rfl) rfl (i_enumT T.enum (a_cons (e_var 1) a_nil)) (g_tup rfl (gs_cons (g_name 4 nd) (gs_cons (g_tup rfl (gs_cons (g_name 7 nd) (gs_cons (g_name 8 nd) (gs_cons (g_name 9 nd) gs_nil)))) gs_nil))) (ss_cons (s_set 5 nd (e_lock (eOp gDGet (eVar 2) (eVar 4)) fun _ _ => (e_dc [(("one" : Str), 10)] rfl nd (by kernel_rfl) (by decide) (i_keys (e_dget (u1 hr) (e_var 2) (e_var 4))) (fun _ _ _ _ _ => (g_name 10 nd)) (fun _ _ _ _ _ => p_nil) (fun _ _ _ _ _ => (e_var 10)) (fun _ _ _ _ _ => e_bl)))) (ss_cons (s_for (passes_of rfl) rfl (i_tup (e_var 8)) (g_name 6 nd) (ss_cons (s_if (t_not (t_val (e_callB (cr_all rfl) (im_all _) T.all (by decide +kernel) (a_cons (e_lc [(("one" : Str), 10)] rfl nd (by kernel_rfl) (by decide) (i_tup (e_call c_used_by (hr.mono (by decide)) (pass_of rfl rfl rfl rfl) (a_cons (e_var 6) a_nil))) (fun _ _ _ _ _ => (g_name 10 nd)) (fun _ _ _ _ _ => p_nil) (fun _ _ _ _ _ => (e_din (u1 hr) (e_var 10) (e_var 5)))) a_nil)))) (ss_one (s_ret e_bl)) ss_nil) (ss_one (s_dputN (u1 hr) (e_var 5) (e_call c_defined_by (hr.mono (by decide)) (pass_of rfl rfl rfl rfl) (a_cons (e_var 6) a_nil)) e_bl)))) (ss_cons (s_if (t_not (t_val (e_callB (cr_all rfl) (im_all _) T.all (by decide +kernel) (a_cons (e_lc [(("one" : Str), 10)] rfl nd (by kernel_rfl) (by decide) (i_tup (e_call c_used_by (hr.mono (by decide)) (pass_of rfl rfl rfl rfl) (a_cons (e_var 9) a_nil))) (fun _ _ _ _ _ => (g_name 10 nd)) (fun _ _ _ _ _ => p_nil) (fun _ _ _ _ _ => (e_din (u1 hr) (e_var 10) (e_var 5)))) a_nil)))) (ss_one (s_ret e_bl)) ss_nil) (ss_one (s_for (passes_of rfl) rfl (i_tup (e_var 7)) (g_tup rfl (gs_cons (g_name 10 nd) (gs_cons (g_name 11 nd) gs_nil))) ss_no)))))) (ss_one (s_ret e_bl))))
end MR
set_option maxHeartbeats 4000000
namespace MR
open PySem PySem.Spec PyProof.Rows L2
abbrev st_Single___init__ : Stmt := inClass (top 38) 1
def b_Single___init__ : LS → LH → Out LF := (sCons (sIf (bNot (tOf (eCall 3 m_is_integer (aCons (eVar 1) (aCons (eC (.int 1)) (aCons (eC (.int 48)) aNil)))))) (sRaise1 4 (tx "part") (eC (.str [109, 97, 110, 121]))) sNil) (sCons (sIf (bNot (tOf (eCall 3 m_is_integer (aCons (eVar 4) (aCons (eC (.int 2)) (aCons (eC (.int 8)) aNil)))))) (sRaise1 4 (tx "part") (eC (.str [115, 112, 97, 110]))) sNil) (sCons (sIf (bOr (bNot (tOf (eUn (gIsTy .tuple) (eVar 2)))) (tOf (eOp gGt (eB gLen (aCons (eVar 2) aNil)) (eC (.int 3))))) (sRaise1 4 (tx "part") (eC (.str [104, 97, 110, 100, 101, 100]))) sNil) (sCons (sIf (bNot (tOf (eB (gQ true) (aCons (eLc (iSeq tupL (eVar 2)) (gN 6) bYes (eCall 3 m_is_integer (aCons (eVar 6) (aCons (eC (.int 0)) (aCons (eOp gSub (eVar 1) (eC (.int 1))) aNil)))) [6]) aNil)))) (sRaise1 4 (tx "part") (eC (.str [104, 97, 110, 100, 101, 100]))) sNil) (sCons (sIf (bOr (bNot (tOf (eUn (gIsTy .tuple) (eVar 3)))) (bNot (tOf (eChain gLe gLe (eC (.int 1)) (eB gLen (aCons (eVar 3) aNil)) (eC (.int 16)))))) (sRaise1 4 (tx "part") (eC (.str [98, 108, 111, 99, 107, 115]))) sNil) (sCons (sIf (bOr (bNot (tOf (eB (gQ true) (aCons (eLc (iSeq tupL (eVar 3)) (gN 7) bYes (eCall 4 m_is_single_block (aCons (eVar 7) (aCons (eVar 1) (aCons (eVar 4) (aCons (eB gLen (aCons (eVar 3) aNil)) aNil))))) [7]) aNil)))) (bNot (tOf (eCall 1 m_are_reached (aCons (eVar 3) aNil))))) (sRaise1 4 (tx "part") (eC (.str [98, 108, 111, 99, 107, 115]))) sNil) (sCons (sAsg (eCall 2 m_definitions_of (aCons (eVar 2) (aCons (eVar 3) aNil))) (gN 5)) (sCons (sIf (bOr (tOf (eOp gNe (eB gLen (aCons (eVar 5) aNil)) (eVar 1))) (bNot (tOf (eB (gQ true) (aCons (eLock (eVar 5) (eLc (iDict (fun p => p.2) (eVar 5)) (gN 8) bYes (eOp gEq (eB gLen (aCons (eVar 8) aNil)) (eC (.int 1))) [8])) aNil))))) (sRaise1 4 (tx "part") (eC (.str [100, 101, 102, 105, 110, 101, 100]))) sNil) (sCons (sIf (bOr (bNot (tOf (eCall 1 m_are_joined (aCons (eVar 3) aNil)))) (bNot (tOf (eCall 2 m_are_strict (aCons (eVar 2) (aCons (eVar 3) aNil)))))) (sRaise1 4 (tx "part") (eC (.str [115, 116, 114, 105, 99, 116]))) sNil) (sCons (sSup 0 [38] 2 m_Blocks___init__ (aCons (eVar 3) aNil)) (sCons (sAttr ixMany (eVar 0) (eVar 1)) (sCons (sAttr ixHanded (eVar 0) (eVar 2)) (sAttr ixSpan (eVar 0) (eVar 4))))))))))))))
def m_Single___init__ : Fn := mFn 9 b_Single___init__
theorem sc_Single___init__ : SScope [("self" : Str), ("many" : Str), ("handed" : Str), ("blocks" : Str), ("span" : Str), ("found" : Str), ("one" : Str), ("block" : Str), ("points" : Str)] [("self" : Str), ("many" : Str), ("handed" : Str), ("blocks" : Str), ("span" : Str)] (defScope st_Single___init__) := sscope_by (by decide +kernel)
theorem ok_Single___init__ {P : Program} {w : World} {K : PySem.W.Frag} {mg : Str → Option Value} {base : Heap} {C : Cst} {xB xS xT D1 D2 D3 : Nat → Addr} {f cc cda Dp : Addr} {fd : FuncData} (T : TX P w K mg base C xB xS xT D1 D2 D3 misS misE) (c_is_integer : Cal P w K mg base C "is_integer" 3 3 m_is_integer) (c_is_single_block : Cal P w K mg base C "is_single_block" 5 4 m_is_single_block) (c_are_reached : Cal P w K mg base C "are_reached" 4 1 m_are_reached) (c_definitions_of : Cal P w K mg base C "definitions_of" 4 2 m_definitions_of) (c_are_joined : Cal P w K mg base C "are_joined" 9 1 m_are_joined) (c_are_strict : Cal P w K mg base C "are_strict" 10 2 m_are_strict) (SF : SupF P K mg f cc cda Dp "self") (SM : SupT P w K mg base C Dp "__init__" [38] 3 2 m_Blocks___init__) (Fd : FunS K "__init__" "Single.__init__" st_Single___init__ [(("span" : Str), V.int 4)] f cc cda Dp fd) : FnOk P w K mg base (L2.CX P w) 11 f fd [("self" : Str), ("many" : Str), ("handed" : Str), ("blocks" : Str), ("span" : Str)] (spM C 5 m_Single___init__) := by
  have nd : ([("self" : Str), ("many" : Str), ("handed" : Str), ("blocks" : Str), ("span" : Str), ("found" : Str), ("one" : Str), ("block" : Str), ("points" : Str)] : List Str).Nodup := by decide
  refine fn_okS Fd sc_Single___init__ fun A outer s H E hr => ?_
  exact (at_cons (at1_of (s_if (t_not (t_val (e_call c_is_integer (hr.mono (by decide)) (pass_of rfl rfl rfl rfl) (a_cons (e_var 1) (a_cons e_int (a_cons (e_gc (.int 48) rfl T.m1) a_nil)))))) (ss_one (s_raise1 4 rfl (takes_of rfl rfl rfl rfl) T.xSingle (hr.mono (by decide)) (e_str [109, 97, 110, 121] rfl))) ss_nil)) (at_cons (at1_of (s_if (t_not (t_val (e_call c_is_integer (hr.mono (by decide)) (pass_of rfl rfl rfl rfl) (a_cons (e_var 4) (a_cons e_int (a_cons (e_gc (.int 8) rfl T.ms) a_nil)))))) (ss_one (s_raise1 4 rfl (takes_of rfl rfl rfl rfl) T.xSingle (hr.mono (by decide)) (e_str [115, 112, 97, 110] rfl))) ss_nil)) (at_cons (at1_of (s_if (w_t (w_or (t_not (t_val (e_isTy .tuple T.isi T.tuple (e_var 2) (by decide +kernel)))) (w_or1 (t_cmp op_gt im_gt (e_len T.len (a_cons (e_var 2) a_nil)) (e_gc (.int 3) rfl T.mh))))) (ss_one (s_raise1 4 rfl (takes_of rfl rfl rfl rfl) T.xSingle (hr.mono (by decide)) (e_str [104, 97, 110, 100, 101, 100] rfl))) ss_nil)) (at_cons (at1_of (s_if (t_not (t_val (e_callB (cr_all rfl) (im_all _) T.all (by decide +kernel) (a_cons (e_lc [(("one" : Str), 6)] rfl nd (by kernel_rfl) (by decide) (i_tup (e_var 2)) (fun _ _ _ _ _ => (g_name 6 nd)) (fun _ _ _ _ _ => p_nil) (fun _ _ _ _ _ => (e_call c_is_integer (hr.mono (by decide)) passE0 (a_cons (e_var 6) (a_cons e_int (a_cons (e_op op_sub im_sub (e_var 1) e_int) a_nil)))))) a_nil)))) (ss_one (s_raise1 4 rfl (takes_of rfl rfl rfl rfl) T.xSingle (hr.mono (by decide)) (e_str [104, 97, 110, 100, 101, 100] rfl))) ss_nil)) (at_cons (at1_of (s_if (w_t (w_or (t_not (t_val (e_isTy .tuple T.isi T.tuple (e_var 3) (by decide +kernel)))) (w_or1 (t_not (t_chain op_le op_le im_le im_le e_int (e_len T.len (a_cons (e_var 3) a_nil)) (e_gc (.int 16) rfl T.mb)))))) (ss_one (s_raise1 4 rfl (takes_of rfl rfl rfl rfl) T.xSingle (hr.mono (by decide)) (e_str [98, 108, 111, 99, 107, 115] rfl))) ss_nil)) (at_cons (at1_of (s_if (w_t (w_or (t_not (t_val (e_callB (cr_all rfl) (im_all _) T.all (by decide +kernel) (a_cons (e_lc [(("block" : Str), 7)] rfl nd (by kernel_rfl) (by decide) (i_tup (e_var 3)) (fun _ _ _ _ _ => (g_name 7 nd)) (fun _ _ _ _ _ => p_nil) (fun _ _ _ _ _ => (e_call c_is_single_block (hr.mono (by decide)) passE0 (a_cons (e_var 7) (a_cons (e_var 1) (a_cons (e_var 4) (a_cons (e_len T.len (a_cons (e_var 3) a_nil)) a_nil))))))) a_nil)))) (w_or1 (t_not (t_val (e_call c_are_reached (hr.mono (by decide)) (pass_of rfl rfl rfl rfl) (a_cons (e_var 3) a_nil))))))) (ss_one (s_raise1 4 rfl (takes_of rfl rfl rfl rfl) T.xSingle (hr.mono (by decide)) (e_str [98, 108, 111, 99, 107, 115] rfl))) ss_nil)) (at_cons (at1_of (s_set 5 nd (e_call c_definitions_of (hr.mono (by decide)) (pass_of rfl rfl rfl rfl) (a_cons (e_var 2) (a_cons (e_var 3) a_nil))))) (at_cons (at1_of (s_if (w_t (w_or (t_cmp (op_neD (u64 hr)) (im_ne _) (e_len T.len (a_cons (e_var 5) a_nil)) (e_var 1)) (w_or1 (t_not (t_val (e_callB (cr_all rfl) (im_all _) T.all (by decide +kernel) (a_cons (e_lock (eVar 5) fun _ _ => (e_lc [(("points" : Str), 8)] rfl nd (by kernel_rfl) (by decide) (i_vals (e_var 5)) (fun _ _ _ _ _ => (g_name 8 nd)) (fun _ _ _ _ _ => p_nil) (fun _ _ _ _ _ => (e_cmp (op_eqD (u64 hr)) (im_eq _) (e_len T.len (a_cons (e_var 8) a_nil)) e_int)))) a_nil))))))) (ss_one (s_raise1 4 rfl (takes_of rfl rfl rfl rfl) T.xSingle (hr.mono (by decide)) (e_str [100, 101, 102, 105, 110, 101, 100] rfl))) ss_nil)) (at_cons (at1_of (s_if (w_t (w_or (t_not (t_val (e_call c_are_joined (hr.mono (by decide)) (pass_of rfl rfl rfl rfl) (a_cons (e_var 3) a_nil)))) (w_or1 (t_not (t_val (e_call c_are_strict (hr.mono (by decide)) (pass_of rfl rfl rfl rfl) (a_cons (e_var 2) (a_cons (e_var 3) a_nil)))))))) (ss_one (s_raise1 4 rfl (takes_of rfl rfl rfl rfl) T.xSingle (hr.mono (by decide)) (e_str [115, 116, 114, 105, 99, 116] rfl))) ss_nil)) (at_cons (at_sup SF SM sc_Single___init__ (hr.mono (by decide)) (a_cons (e_var 3) a_nil) (pass_of rfl rfl rfl rfl)) (at_cons (at1_of (s_attr T.sMany (e_var 0) (e_var 1))) (at_cons (at1_of (s_attr T.sHanded (e_var 0) (e_var 2))) (at_of (ss_one (s_attr T.sSpan (e_var 0) (e_var 4))))))))))))))))
abbrev st_Single_parts : Stmt := inClass (top 38) 3
def b_Single_parts : LS → LH → Out LF := (sRet (eNew .tup (aCons (eAttr ixMany (eVar 0)) (aCons (eAttr ixHanded (eVar 0)) (aCons (eAttr ixBlocks (eVar 0)) (aCons (eAttr ixSpan (eVar 0)) aNil))))))
def m_Single_parts : Fn := mFn 1 b_Single_parts
theorem sc_Single_parts : FnScope [("self" : Str)] [("self" : Str)] (defScope st_Single_parts) := ⟨rfl, rfl, rfl, by decide +kernel, rfl, by decide +kernel, by decide +kernel⟩
theorem ok_Single_parts {P : Program} {w : World} {K : PySem.W.Frag} {mg : Str → Option Value} {base : Heap} {C : Cst} {xB xS xT D1 D2 D3 : Nat → Addr} {f : Addr} {fd : FuncData} (T : TX P w K mg base C xB xS xT D1 D2 D3 misS misE)  (Fd : Fun K "parts" "Single.parts" st_Single_parts f fd) : FnOk P w K mg base (L2.CX P w) 3 f fd [("self" : Str)] (spM C 1 m_Single_parts) := by
  have nd := sc_Single_parts.nd
  refine fn_ok Fd sc_Single_parts fun cdv A outer s H E hr => ?_
  exact (ss_one (s_ret (e_tup (a_cons (e_attr T.sMany (e_var 0)) (a_cons (e_attr T.sHanded (e_var 0)) (a_cons (e_attr T.sBlocks (e_var 0)) (a_cons (e_attr T.sSpan (e_var 0)) a_nil)))))))
abbrev st_Single___eq__ : Stmt := inClass (top 38) 2
def b_Single___eq__ : LS → LH → Out LF := (sRet (eAnd (eIsCls (icOf 38) (eVar 1)) (eOp gEq (eMethN [38] 1 m_Single_parts (eVar 0) aNil) (eMethN [38] 1 m_Single_parts (eVar 1) aNil))))
def m_Single___eq__ : Fn := mFn 2 b_Single___eq__
theorem sc_Single___eq__ : FnScope [("self" : Str), ("other" : Str)] [("self" : Str), ("other" : Str)] (defScope st_Single___eq__) := ⟨rfl, rfl, rfl, by decide +kernel, rfl, by decide +kernel, by decide +kernel⟩
theorem ok_Single___eq__ {P : Program} {w : World} {K : PySem.W.Frag} {mg : Str → Option Value} {base : Heap} {C : Cst} {xB xS xT D1 D2 D3 : Nat → Addr} {f : Addr} {fd : FuncData} (T : TX P w K mg base C xB xS xT D1 D2 D3 misS misE) (h_Single_parts : MethT P w K mg base C "parts" [38] 3 1 m_Single_parts) (Fd : Fun K "__eq__" "Single.__eq__" st_Single___eq__ f fd) : FnOk P w K mg base (L2.CX P w) 4 f fd [("self" : Str), ("other" : Str)] (spM C 2 m_Single___eq__) := by
  have nd := sc_Single___eq__.nd
  refine fn_ok Fd sc_Single___eq__ fun cdv A outer s H E hr => ?_
  exact (ss_one (s_ret (e_and (e_isCls T.kSingle T.isi T.cSingle (e_var 1)) (e_one (e_cmp (op_eqD (u64 hr)) (im_eq _) (e_meth0 h_Single_parts (hr.mono (by decide)) (pass_of rfl rfl rfl rfl) (e_var 0)) (e_meth0 h_Single_parts (hr.mono (by decide)) (pass_of rfl rfl rfl rfl) (e_var 1)))))))
abbrev st_check_single : Stmt := top 39
def b_check_single : LS → LH → Out LF := (sIf (bNot (tOf (eIsCls (icOf 38) (eVar 0)))) (sRaise1 4 (tx "part") (eC .non)) sNil)
def m_check_single : Fn := mFn 1 b_check_single
theorem sc_check_single : FnScope [("single" : Str)] [("single" : Str)] (defScope st_check_single) := ⟨rfl, rfl, rfl, by decide +kernel, rfl, by decide +kernel, by decide +kernel⟩
theorem ok_check_single {P : Program} {w : World} {K : PySem.W.Frag} {mg : Str → Option Value} {base : Heap} {C : Cst} {xB xS xT D1 D2 D3 : Nat → Addr} {f : Addr} {fd : FuncData} (T : TX P w K mg base C xB xS xT D1 D2 D3 misS misE)  (Fd : Fun K "check_single" "check_single" st_check_single f fd) : FnOk P w K mg base (L2.CX P w) 3 f fd [("single" : Str)] (spM C 1 m_check_single) := by
  have nd := sc_check_single.nd
  refine fn_ok Fd sc_check_single fun cdv A outer s H E hr => ?_
  exact (ss_one (s_if (t_not (t_val (e_isCls T.kSingle T.isi T.cSingle (e_var 0)))) (ss_one (s_raise1 4 rfl (takes_of rfl rfl rfl rfl) T.xSingle (hr.mono (by decide)) e_non)) ss_nil))
end MR
set_option maxHeartbeats 4000000
namespace MR
open PySem PySem.Spec PyProof.Rows L2
abbrev st_Desk___init__ : Stmt := inClass (top 41) 1
def b_Desk___init__ : LS → LH → Out LF := (sCons (sDrop (eCall 1 m_check_program (aCons (eVar 1) aNil))) (sCons (sAttr ixPast (eVar 0) (eNew .lst (aCons (eVar 1) aNil))) (sCons (sAttr ixNotes (eVar 0) (eNew .lst aNil)) (sAttr ixFloor (eVar 0) (eC (.int 0))))))
def m_Desk___init__ : Fn := mFn 2 b_Desk___init__
theorem sc_Desk___init__ : FnScope [("self" : Str), ("program" : Str)] [("self" : Str), ("program" : Str)] (defScope st_Desk___init__) := ⟨rfl, rfl, rfl, by decide +kernel, rfl, by decide +kernel, by decide +kernel⟩
theorem ok_Desk___init__ {P : Program} {w : World} {K : PySem.W.Frag} {mg : Str → Option Value} {base : Heap} {C : Cst} {xB xS xT D1 D2 D3 : Nat → Addr} {f : Addr} {fd : FuncData} (T : TX P w K mg base C xB xS xT D1 D2 D3 misS misE) (c_check_program : Cal P w K mg base C "check_program" 3 1 m_check_program) (Fd : Fun K "__init__" "Desk.__init__" st_Desk___init__ f fd) : FnOk P w K mg base (L2.CX P w) 4 f fd [("self" : Str), ("program" : Str)] (spM C 2 m_Desk___init__) := by
  have nd := sc_Desk___init__.nd
  refine fn_ok Fd sc_Desk___init__ fun cdv A outer s H E hr => ?_
  exact (ss_cons (s_expr (e_call c_check_program (hr.mono (by decide)) (pass_of rfl rfl rfl rfl) (a_cons (e_var 1) a_nil))) (ss_cons (s_attr T.sPast (e_var 0) (e_lst (a_cons (e_var 1) a_nil))) (ss_cons (s_attr T.sNotes (e_var 0) (e_lst a_nil)) (ss_one (s_attr T.sFloor (e_var 0) e_int)))))
abbrev st_Desk_now : Stmt := inClass (top 41) 2
def b_Desk_now : LS → LH → Out LF := (sRet (eOp gIx (eAttr ixPast (eVar 0)) (eUn gNeg (eC (.int 1)))))
def m_now : Fn := mFn 1 b_Desk_now
theorem sc_Desk_now : FnScope [("self" : Str)] [("self" : Str)] (defScope st_Desk_now) := ⟨rfl, rfl, rfl, by decide +kernel, rfl, by decide +kernel, by decide +kernel⟩
theorem ok_Desk_now {P : Program} {w : World} {K : PySem.W.Frag} {mg : Str → Option Value} {base : Heap} {C : Cst} {xB xS xT D1 D2 D3 : Nat → Addr} {f : Addr} {fd : FuncData} (T : TX P w K mg base C xB xS xT D1 D2 D3 misS misE)  (Fd : Fun K "now" "Desk.now" st_Desk_now f fd) : FnOk P w K mg base (L2.CX P w) 3 f fd [("self" : Str)] (spM C 1 m_now) := by
  have nd := sc_Desk_now.nd
  refine fn_ok Fd sc_Desk_now fun cdv A outer s H E hr => ?_
  exact (ss_one (s_ret (e_ix (e_attr T.sPast (e_var 0)) (e_neg e_int))))
abbrev st_Desk_journal : Stmt := inClass (top 41) 3
def b_Desk_journal : LS → LH → Out LF := (sRet (eB gList (aCons (eAttr ixNotes (eVar 0)) aNil)))
def m_journal : Fn := mFn 1 b_Desk_journal
theorem sc_Desk_journal : FnScope [("self" : Str)] [("self" : Str)] (defScope st_Desk_journal) := ⟨rfl, rfl, rfl, by decide +kernel, rfl, by decide +kernel, by decide +kernel⟩
theorem ok_Desk_journal {P : Program} {w : World} {K : PySem.W.Frag} {mg : Str → Option Value} {base : Heap} {C : Cst} {xB xS xT D1 D2 D3 : Nat → Addr} {f : Addr} {fd : FuncData} (T : TX P w K mg base C xB xS xT D1 D2 D3 misS misE)  (Fd : Fun K "journal" "Desk.journal" st_Desk_journal f fd) : FnOk P w K mg base (L2.CX P w) 3 f fd [("self" : Str)] (spM C 1 m_journal) := by
  have nd := sc_Desk_journal.nd
  refine fn_ok Fd sc_Desk_journal fun cdv A outer s H E hr => ?_
  exact (ss_one (s_ret (e_callTy call_list_of (im_list _) T.list (by decide +kernel) (a_cons (e_attr T.sNotes (e_var 0)) a_nil))))
abbrev st_Desk___len__ : Stmt := inClass (top 41) 4
def b_Desk___len__ : LS → LH → Out LF := (sRet (eB gLen (aCons (eAttr ixNotes (eVar 0)) aNil)))
def m_Desk___len__ : Fn := mFn 1 b_Desk___len__
theorem sc_Desk___len__ : FnScope [("self" : Str)] [("self" : Str)] (defScope st_Desk___len__) := ⟨rfl, rfl, rfl, by decide +kernel, rfl, by decide +kernel, by decide +kernel⟩
theorem ok_Desk___len__ {P : Program} {w : World} {K : PySem.W.Frag} {mg : Str → Option Value} {base : Heap} {C : Cst} {xB xS xT D1 D2 D3 : Nat → Addr} {f : Addr} {fd : FuncData} (T : TX P w K mg base C xB xS xT D1 D2 D3 misS misE)  (Fd : Fun K "__len__" "Desk.__len__" st_Desk___len__ f fd) : FnOk P w K mg base (L2.CX P w) 3 f fd [("self" : Str)] (spM C 1 m_Desk___len__) := by
  have nd := sc_Desk___len__.nd
  refine fn_ok Fd sc_Desk___len__ fun cdv A outer s H E hr => ?_
  exact (ss_one (s_ret (e_len T.len (a_cons (e_attr T.sNotes (e_var 0)) a_nil))))
abbrev st_Desk_changed : Stmt := inClass (top 41) 5
def b_Desk_changed : LS → LH → Out LF := (sCons (sAsg (eAttr ixBlocks (eProp [41] m_now (eVar 0))) (gN 4)) (sCons (sAsg (eMethN [26] 2 m_Program_with_blocks (eProp [41] m_now (eVar 0)) (aCons (eNew .tup (aStar (eSl (eVar 4) oNone (oSome (eVar 2))) (aCons (eVar 3) (aStar (eSl (eVar 4) (oSome (eOp gAdd (eVar 2) (eC (.int 1)))) oNone) aNil)))) aNil)) (gN 5)) (sCons (sDrop (eBM .list gAppend (eAttr ixPast (eVar 0)) (aCons (eVar 5) aNil))) (sCons (sDrop (eBM .list gAppend (eAttr ixNotes (eVar 0)) (aCons (eVar 1) aNil))) (sRet (eVar 5))))))
def m_Desk_changed : Fn := mFn 6 b_Desk_changed
theorem sc_Desk_changed : FnScope [("self" : Str), ("note" : Str), ("block" : Str), ("pair" : Str), ("blocks" : Str), ("late" : Str)] [("self" : Str), ("note" : Str), ("block" : Str), ("pair" : Str)] (defScope st_Desk_changed) := ⟨rfl, rfl, rfl, by decide +kernel, rfl, by decide +kernel, by decide +kernel⟩
theorem ok_Desk_changed {P : Program} {w : World} {K : PySem.W.Frag} {mg : Str → Option Value} {base : Heap} {C : Cst} {xB xS xT D1 D2 D3 : Nat → Addr} {f : Addr} {fd : FuncData} (T : TX P w K mg base C xB xS xT D1 D2 D3 misS misE) (p_now : PropT P w K mg base C "now" [41] 3 m_now) (h_Program_with_blocks : MethT P w K mg base C "with_blocks" [26] 8 2 m_Program_with_blocks) (Fd : Fun K "changed" "Desk.changed" st_Desk_changed f fd) : FnOk P w K mg base (L2.CX P w) 9 f fd [("self" : Str), ("note" : Str), ("block" : Str), ("pair" : Str)] (spM C 4 m_Desk_changed) := by
  have nd := sc_Desk_changed.nd
  refine fn_ok Fd sc_Desk_changed fun cdv A outer s H E hr => ?_
  exact (ss_cons (s_set 4 nd (e_attr T.sBlocks (e_prop p_now (hr.mono (by decide)) (e_var 0)))) (ss_cons (s_set 5 nd (e_meth h_Program_with_blocks (hr.mono (by decide)) (pass_of rfl rfl rfl rfl) (e_prop p_now (hr.mono (by decide)) (e_var 0)) (a_cons (e_tup (a_star (e_slice (e_var 4) o_none (o_some (e_var 2))) (a_cons (e_var 3) (a_star (e_slice (e_var 4) (o_some (e_op op_add im_add (e_var 2) e_int)) o_none) a_nil)))) a_nil))) (ss_cons (s_expr (e_bm .list PySem.F.plainAttrs_list PySem.F.slot_list_append PySem.F.type_list_append mt_append im_append (e_attr T.sPast (e_var 0)) (a_cons (e_var 5) a_nil))) (ss_cons (s_expr (e_bm .list PySem.F.plainAttrs_list PySem.F.slot_list_append PySem.F.type_list_append mt_append im_append (e_attr T.sNotes (e_var 0)) (a_cons (e_var 1) a_nil))) (ss_one (s_ret (e_var 5)))))))
abbrev st_Desk_put_row : Stmt := inClass (top 41) 6
def b_Desk_put_row : LS → LH → Out LF := (sCons (sAsg (eMethN [24, 26, 38] 2 m_Blocks_rows (eProp [41] m_now (eVar 0)) (aCons (eVar 1) aNil)) (gN 4)) (sCons (sIf (bNot (tOf (eCall 3 m_is_integer (aCons (eVar 2) (aCons (eC (.int 0)) (aCons (eB gLen (aCons (eVar 4) aNil)) aNil)))))) (sRaise0 9 (eC (.str [110, 111, 116, 32, 116, 104, 101, 32, 105, 110, 100, 101, 120, 32, 111, 102, 32, 97, 32, 114, 111, 119]))) sNil) (sRet (eMethN [41] 4 m_Desk_changed (eVar 0) (aCons (eNew .tup (aCons (eC (.str [112, 117, 116])) (aCons (eVar 1) (aCons (eVar 2) (aCons (eVar 3) aNil))))) (aCons (eVar 1) (aCons (eNew .tup (aCons (eNew .tup (aStar (eSl (eVar 4) oNone (oSome (eVar 2))) (aCons (eVar 3) (aStar (eSl (eVar 4) (oSome (eVar 2)) oNone) aNil)))) (aCons (eMethN [24, 26, 38] 2 m_Blocks_end (eProp [41] m_now (eVar 0)) (aCons (eVar 1) aNil)) aNil))) aNil)))))))
def m_Desk_put_row : Fn := mFn 5 b_Desk_put_row
theorem sc_Desk_put_row : FnScope [("self" : Str), ("block" : Str), ("at" : Str), ("row" : Str), ("rows" : Str)] [("self" : Str), ("block" : Str), ("at" : Str), ("row" : Str)] (defScope st_Desk_put_row) := ⟨rfl, rfl, rfl, by decide +kernel, rfl, by decide +kernel, by decide +kernel⟩
theorem ok_Desk_put_row {P : Program} {w : World} {K : PySem.W.Frag} {mg : Str → Option Value} {base : Heap} {C : Cst} {xB xS xT D1 D2 D3 : Nat → Addr} {f : Addr} {fd : FuncData} (T : TX P w K mg base C xB xS xT D1 D2 D3 misS misE) (h_Blocks_rows : MethT P w K mg base C "rows" [24, 26, 38] 6 2 m_Blocks_rows) (p_now : PropT P w K mg base C "now" [41] 3 m_now) (c_is_integer : Cal P w K mg base C "is_integer" 3 3 m_is_integer) (h_Desk_changed : MethT P w K mg base C "changed" [41] 9 4 m_Desk_changed) (h_Blocks_end : MethT P w K mg base C "end" [24, 26, 38] 6 2 m_Blocks_end) (Fd : Fun K "put_row" "Desk.put_row" st_Desk_put_row f fd) : FnOk P w K mg base (L2.CX P w) 10 f fd [("self" : Str), ("block" : Str), ("at" : Str), ("row" : Str)] (spM C 4 m_Desk_put_row) := by
  have nd := sc_Desk_put_row.nd
  refine fn_ok Fd sc_Desk_put_row fun cdv A outer s H E hr => ?_
  exact (ss_cons (s_set 4 nd (e_meth h_Blocks_rows (hr.mono (by decide)) (pass_of rfl rfl rfl rfl) (e_prop p_now (hr.mono (by decide)) (e_var 0)) (a_cons (e_var 1) a_nil))) (ss_cons (s_if (t_not (t_val (e_call c_is_integer (hr.mono (by decide)) (pass_of rfl rfl rfl rfl) (a_cons (e_var 2) (a_cons e_int (a_cons (e_len T.len (a_cons (e_var 4) a_nil)) a_nil)))))) (ss_one (r0 T.xEdit rfl (takes_of rfl rfl rfl rfl) (e_str [110, 111, 116, 32, 116, 104, 101, 32, 105, 110, 100, 101, 120, 32, 111, 102, 32, 97, 32, 114, 111, 119] rfl))) ss_nil) (ss_one (s_ret (e_meth h_Desk_changed (hr.mono (by decide)) (pass_of rfl rfl rfl rfl) (e_var 0) (a_cons (e_tup (a_cons (e_str [112, 117, 116] rfl) (a_cons (e_var 1) (a_cons (e_var 2) (a_cons (e_var 3) a_nil))))) (a_cons (e_var 1) (a_cons (e_tup (a_cons (e_tup (a_star (e_slice (e_var 4) o_none (o_some (e_var 2))) (a_cons (e_var 3) (a_star (e_slice (e_var 4) (o_some (e_var 2)) o_none) a_nil)))) (a_cons (e_meth h_Blocks_end (hr.mono (by decide)) (pass_of rfl rfl rfl rfl) (e_prop p_now (hr.mono (by decide)) (e_var 0)) (a_cons (e_var 1) a_nil)) a_nil))) a_nil))))))))
abbrev st_Desk_take_row : Stmt := inClass (top 41) 7
def b_Desk_take_row : LS → LH → Out LF := (sCons (sAsg (eMethN [24, 26, 38] 2 m_Blocks_rows (eProp [41] m_now (eVar 0)) (aCons (eVar 1) aNil)) (gN 3)) (sCons (sIf (bNot (tOf (eCall 3 m_is_integer (aCons (eVar 2) (aCons (eC (.int 0)) (aCons (eOp gSub (eB gLen (aCons (eVar 3) aNil)) (eC (.int 1))) aNil)))))) (sRaise0 9 (eC (.str [110, 111, 116, 32, 116, 104, 101, 32, 105, 110, 100, 101, 120, 32, 111, 102, 32, 97, 32, 114, 111, 119]))) sNil) (sRet (eMethN [41] 4 m_Desk_changed (eVar 0) (aCons (eNew .tup (aCons (eC (.str [116, 97, 107, 101])) (aCons (eVar 1) (aCons (eVar 2) aNil)))) (aCons (eVar 1) (aCons (eNew .tup (aCons (eNew .tup (aStar (eSl (eVar 3) oNone (oSome (eVar 2))) (aStar (eSl (eVar 3) (oSome (eOp gAdd (eVar 2) (eC (.int 1)))) oNone) aNil))) (aCons (eMethN [24, 26, 38] 2 m_Blocks_end (eProp [41] m_now (eVar 0)) (aCons (eVar 1) aNil)) aNil))) aNil)))))))
def m_Desk_take_row : Fn := mFn 4 b_Desk_take_row
theorem sc_Desk_take_row : FnScope [("self" : Str), ("block" : Str), ("at" : Str), ("rows" : Str)] [("self" : Str), ("block" : Str), ("at" : Str)] (defScope st_Desk_take_row) := ⟨rfl, rfl, rfl, by decide +kernel, rfl, by decide +kernel, by decide +kernel⟩
theorem ok_Desk_take_row {P : Program} {w : World} {K : PySem.W.Frag} {mg : Str → Option Value} {base : Heap} {C : Cst} {xB xS xT D1 D2 D3 : Nat → Addr} {f : Addr} {fd : FuncData} (T : TX P w K mg base C xB xS xT D1 D2 D3 misS misE) (h_Blocks_rows : MethT P w K mg base C "rows" [24, 26, 38] 6 2 m_Blocks_rows) (p_now : PropT P w K mg base C "now" [41] 3 m_now) (c_is_integer : Cal P w K mg base C "is_integer" 3 3 m_is_integer) (h_Desk_changed : MethT P w K mg base C "changed" [41] 9 4 m_Desk_changed) (h_Blocks_end : MethT P w K mg base C "end" [24, 26, 38] 6 2 m_Blocks_end) (Fd : Fun K "take_row" "Desk.take_row" st_Desk_take_row f fd) : FnOk P w K mg base (L2.CX P w) 10 f fd [("self" : Str), ("block" : Str), ("at" : Str)] (spM C 3 m_Desk_take_row) := by
  have nd := sc_Desk_take_row.nd
  refine fn_ok Fd sc_Desk_take_row fun cdv A outer s H E hr => ?_
  exact (ss_cons (s_set 3 nd (e_meth h_Blocks_rows (hr.mono (by decide)) (pass_of rfl rfl rfl rfl) (e_prop p_now (hr.mono (by decide)) (e_var 0)) (a_cons (e_var 1) a_nil))) (ss_cons (s_if (t_not (t_val (e_call c_is_integer (hr.mono (by decide)) (pass_of rfl rfl rfl rfl) (a_cons (e_var 2) (a_cons e_int (a_cons (e_op op_sub im_sub (e_len T.len (a_cons (e_var 3) a_nil)) e_int) a_nil)))))) (ss_one (r0 T.xEdit rfl (takes_of rfl rfl rfl rfl) (e_str [110, 111, 116, 32, 116, 104, 101, 32, 105, 110, 100, 101, 120, 32, 111, 102, 32, 97, 32, 114, 111, 119] rfl))) ss_nil) (ss_one (s_ret (e_meth h_Desk_changed (hr.mono (by decide)) (pass_of rfl rfl rfl rfl) (e_var 0) (a_cons (e_tup (a_cons (e_str [116, 97, 107, 101] rfl) (a_cons (e_var 1) (a_cons (e_var 2) a_nil)))) (a_cons (e_var 1) (a_cons (e_tup (a_cons (e_tup (a_star (e_slice (e_var 3) o_none (o_some (e_var 2))) (a_star (e_slice (e_var 3) (o_some (e_op op_add im_add (e_var 2) e_int)) o_none) a_nil))) (a_cons (e_meth h_Blocks_end (hr.mono (by decide)) (pass_of rfl rfl rfl rfl) (e_prop p_now (hr.mono (by decide)) (e_var 0)) (a_cons (e_var 1) a_nil)) a_nil))) a_nil))))))))
abbrev st_Desk_turn_end : Stmt := inClass (top 41) 8
def b_Desk_turn_end : LS → LH → Out LF := (sRet (eMethN [41] 4 m_Desk_changed (eVar 0) (aCons (eNew .tup (aCons (eC (.str [116, 117, 114, 110])) (aCons (eVar 1) (aCons (eVar 2) aNil)))) (aCons (eVar 1) (aCons (eNew .tup (aCons (eMethN [24, 26, 38] 2 m_Blocks_rows (eProp [41] m_now (eVar 0)) (aCons (eVar 1) aNil)) (aCons (eVar 2) aNil))) aNil)))))
def m_Desk_turn_end : Fn := mFn 3 b_Desk_turn_end
theorem sc_Desk_turn_end : FnScope [("self" : Str), ("block" : Str), ("end" : Str)] [("self" : Str), ("block" : Str), ("end" : Str)] (defScope st_Desk_turn_end) := ⟨rfl, rfl, rfl, by decide +kernel, rfl, by decide +kernel, by decide +kernel⟩
theorem ok_Desk_turn_end {P : Program} {w : World} {K : PySem.W.Frag} {mg : Str → Option Value} {base : Heap} {C : Cst} {xB xS xT D1 D2 D3 : Nat → Addr} {f : Addr} {fd : FuncData} (T : TX P w K mg base C xB xS xT D1 D2 D3 misS misE) (h_Desk_changed : MethT P w K mg base C "changed" [41] 9 4 m_Desk_changed) (h_Blocks_rows : MethT P w K mg base C "rows" [24, 26, 38] 6 2 m_Blocks_rows) (p_now : PropT P w K mg base C "now" [41] 3 m_now) (Fd : Fun K "turn_end" "Desk.turn_end" st_Desk_turn_end f fd) : FnOk P w K mg base (L2.CX P w) 10 f fd [("self" : Str), ("block" : Str), ("end" : Str)] (spM C 3 m_Desk_turn_end) := by
  have nd := sc_Desk_turn_end.nd
  refine fn_ok Fd sc_Desk_turn_end fun cdv A outer s H E hr => ?_
  exact (ss_one (s_ret (e_meth h_Desk_changed (hr.mono (by decide)) (pass_of rfl rfl rfl rfl) (e_var 0) (a_cons (e_tup (a_cons (e_str [116, 117, 114, 110] rfl) (a_cons (e_var 1) (a_cons (e_var 2) a_nil)))) (a_cons (e_var 1) (a_cons (e_tup (a_cons (e_meth h_Blocks_rows (hr.mono (by decide)) (pass_of rfl rfl rfl rfl) (e_prop p_now (hr.mono (by decide)) (e_var 0)) (a_cons (e_var 1) a_nil)) (a_cons (e_var 2) a_nil))) a_nil))))))
abbrev st_Desk_undo : Stmt := inClass (top 41) 9
def b_Desk_undo : LS → LH → Out LF := (sCons (sIf (tOf (eOp gEq (eB gLen (aCons (eAttr ixNotes (eVar 0)) aNil)) (eAttr ixFloor (eVar 0)))) (sRaise0 7 (eC (.str [110, 111, 116, 104, 105, 110, 103, 32, 116, 104, 97, 116, 32, 99, 97, 110, 32, 98, 101, 32, 117, 110, 100, 111, 110, 101]))) sNil) (sCons (sDrop (eBM .list gPop (eAttr ixPast (eVar 0)) aNil)) (sRet (eBM .list gPop (eAttr ixNotes (eVar 0)) aNil))))
def m_Desk_undo : Fn := mFn 1 b_Desk_undo
theorem sc_Desk_undo : FnScope [("self" : Str)] [("self" : Str)] (defScope st_Desk_undo) := ⟨rfl, rfl, rfl, by decide +kernel, rfl, by decide +kernel, by decide +kernel⟩
theorem ok_Desk_undo {P : Program} {w : World} {K : PySem.W.Frag} {mg : Str → Option Value} {base : Heap} {C : Cst} {xB xS xT D1 D2 D3 : Nat → Addr} {f : Addr} {fd : FuncData} (T : TX P w K mg base C xB xS xT D1 D2 D3 misS misE)  (Fd : Fun K "undo" "Desk.undo" st_Desk_undo f fd) : FnOk P w K mg base (L2.CX P w) 3 f fd [("self" : Str)] (spM C 1 m_Desk_undo) := by
  have nd := sc_Desk_undo.nd
  refine fn_ok Fd sc_Desk_undo fun cdv A outer s H E hr => ?_
  exact (ss_cons (s_if (t_cmp (op_eqD (u64 hr)) (im_eq _) (e_len T.len (a_cons (e_attr T.sNotes (e_var 0)) a_nil)) (e_attr T.sFloor (e_var 0))) (ss_one (r0 T.xNothing rfl (takes_of rfl rfl rfl rfl) (e_str [110, 111, 116, 104, 105, 110, 103, 32, 116, 104, 97, 116, 32, 99, 97, 110, 32, 98, 101, 32, 117, 110, 100, 111, 110, 101] rfl))) ss_nil) (ss_cons (s_expr (e_bm0 .list PySem.F.plainAttrs_list PySem.F.slot_list_pop PySem.F.type_list_pop mt_pop im_pop (e_attr T.sPast (e_var 0)))) (ss_one (s_ret (e_bm0 .list PySem.F.plainAttrs_list PySem.F.slot_list_pop PySem.F.type_list_pop mt_pop im_pop (e_attr T.sNotes (e_var 0)))))))
abbrev st_Desk_branch : Stmt := inClass (top 41) 10
def b_Desk_branch : LS → LH → Out LF := (sCons (sAsg (eMake 41 2 m_Desk___init__ [] (aCons (eProp [41] m_now (eVar 0)) aNil)) (gN 1)) (sCons (sAttr ixPast (eVar 1) (eB gList (aCons (eAttr ixPast (eVar 0)) aNil))) (sCons (sAttr ixNotes (eVar 1) (eB gList (aCons (eAttr ixNotes (eVar 0)) aNil))) (sRet (eVar 1)))))
def m_Desk_branch : Fn := mFn 2 b_Desk_branch
theorem sc_Desk_branch : FnScope [("self" : Str), ("late" : Str)] [("self" : Str)] (defScope st_Desk_branch) := ⟨rfl, rfl, rfl, by decide +kernel, rfl, by decide +kernel, by decide +kernel⟩
theorem ok_Desk_branch {P : Program} {w : World} {K : PySem.W.Frag} {mg : Str → Option Value} {base : Heap} {C : Cst} {xB xS xT D1 D2 D3 : Nat → Addr} {f : Addr} {fd : FuncData} (T : TX P w K mg base C xB xS xT D1 D2 D3 misS misE) (p_now : PropT P w K mg base C "now" [41] 3 m_now) (k_Desk : MkT P w K mg base C "Desk" 41 4 2 m_Desk___init__ []) (Fd : Fun K "branch" "Desk.branch" st_Desk_branch f fd) : FnOk P w K mg base (L2.CX P w) 6 f fd [("self" : Str)] (spM C 1 m_Desk_branch) := by
  have nd := sc_Desk_branch.nd
  refine fn_ok Fd sc_Desk_branch fun cdv A outer s H E hr => ?_
  exact (ss_cons (s_set 1 nd (e_make k_Desk (hr.mono (by decide)) (pass_of rfl rfl rfl rfl) (a_cons (e_prop p_now (hr.mono (by decide)) (e_var 0)) a_nil))) (ss_cons (s_attr T.sPast (e_var 1) (e_callTy call_list_of (im_list _) T.list (by decide +kernel) (a_cons (e_attr T.sPast (e_var 0)) a_nil))) (ss_cons (s_attr T.sNotes (e_var 1) (e_callTy call_list_of (im_list _) T.list (by decide +kernel) (a_cons (e_attr T.sNotes (e_var 0)) a_nil))) (ss_one (s_ret (e_var 1))))))
abbrev st_Trial___init__ : Stmt := inClass (top 42) 1
def b_Trial___init__ : LS → LH → Out LF := (sCons (sAttr ixDesk (eVar 0) (eVar 1)) (sCons (sAttr ixPast (eVar 0) (eNew .lst aNil)) (sCons (sAttr ixNotes (eVar 0) (eNew .lst aNil)) (sAttr ixFloor (eVar 0) (eC (.int 0))))))
def m_Trial___init__ : Fn := mFn 2 b_Trial___init__
theorem sc_Trial___init__ : FnScope [("self" : Str), ("desk" : Str)] [("self" : Str), ("desk" : Str)] (defScope st_Trial___init__) := ⟨rfl, rfl, rfl, by decide +kernel, rfl, by decide +kernel, by decide +kernel⟩
theorem ok_Trial___init__ {P : Program} {w : World} {K : PySem.W.Frag} {mg : Str → Option Value} {base : Heap} {C : Cst} {xB xS xT D1 D2 D3 : Nat → Addr} {f : Addr} {fd : FuncData} (T : TX P w K mg base C xB xS xT D1 D2 D3 misS misE)  (Fd : Fun K "__init__" "Trial.__init__" st_Trial___init__ f fd) : FnOk P w K mg base (L2.CX P w) 3 f fd [("self" : Str), ("desk" : Str)] (spM C 2 m_Trial___init__) := by
  have nd := sc_Trial___init__.nd
  refine fn_ok Fd sc_Trial___init__ fun cdv A outer s H E hr => ?_
  exact (ss_cons (s_attr T.sDesk (e_var 0) (e_var 1)) (ss_cons (s_attr T.sPast (e_var 0) (e_lst a_nil)) (ss_cons (s_attr T.sNotes (e_var 0) (e_lst a_nil)) (ss_one (s_attr T.sFloor (e_var 0) e_int)))))
abbrev st_Desk_trial : Stmt := inClass (top 41) 11
def b_Desk_trial : LS → LH → Out LF := (sRet (eMake 42 2 m_Trial___init__ [] (aCons (eVar 0) aNil)))
def m_Desk_trial : Fn := mFn 1 b_Desk_trial
theorem sc_Desk_trial : FnScope [("self" : Str)] [("self" : Str)] (defScope st_Desk_trial) := ⟨rfl, rfl, rfl, by decide +kernel, rfl, by decide +kernel, by decide +kernel⟩
theorem ok_Desk_trial {P : Program} {w : World} {K : PySem.W.Frag} {mg : Str → Option Value} {base : Heap} {C : Cst} {xB xS xT D1 D2 D3 : Nat → Addr} {f : Addr} {fd : FuncData} (T : TX P w K mg base C xB xS xT D1 D2 D3 misS misE) (k_Trial : MkT P w K mg base C "Trial" 42 3 2 m_Trial___init__ []) (Fd : Fun K "trial" "Desk.trial" st_Desk_trial f fd) : FnOk P w K mg base (L2.CX P w) 5 f fd [("self" : Str)] (spM C 1 m_Desk_trial) := by
  have nd := sc_Desk_trial.nd
  refine fn_ok Fd sc_Desk_trial fun cdv A outer s H E hr => ?_
  exact (ss_one (s_ret (e_make k_Trial (hr.mono (by decide)) (pass_of rfl rfl rfl rfl) (a_cons (e_var 0) a_nil))))
abbrev st_Trial___enter__ : Stmt := inClass (top 42) 2
def b_Trial___enter__ : LS → LH → Out LF := (sCons (sAttr ixPast (eVar 0) (eB gList (aCons (eAttr ixPast (eAttr ixDesk (eVar 0))) aNil))) (sCons (sAttr ixNotes (eVar 0) (eB gList (aCons (eAttr ixNotes (eAttr ixDesk (eVar 0))) aNil))) (sCons (sAttr ixFloor (eVar 0) (eAttr ixFloor (eAttr ixDesk (eVar 0)))) (sCons (sAttr ixFloor (eAttr ixDesk (eVar 0)) (eB gLen (aCons (eAttr ixNotes (eVar 0)) aNil))) (sRet (eAttr ixDesk (eVar 0)))))))
def m_Trial___enter__ : Fn := mFn 1 b_Trial___enter__
theorem sc_Trial___enter__ : FnScope [("self" : Str)] [("self" : Str)] (defScope st_Trial___enter__) := ⟨rfl, rfl, rfl, by decide +kernel, rfl, by decide +kernel, by decide +kernel⟩
theorem ok_Trial___enter__ {P : Program} {w : World} {K : PySem.W.Frag} {mg : Str → Option Value} {base : Heap} {C : Cst} {xB xS xT D1 D2 D3 : Nat → Addr} {f : Addr} {fd : FuncData} (T : TX P w K mg base C xB xS xT D1 D2 D3 misS misE)  (Fd : Fun K "__enter__" "Trial.__enter__" st_Trial___enter__ f fd) : FnOk P w K mg base (L2.CX P w) 3 f fd [("self" : Str)] (spM C 1 m_Trial___enter__) := by
  have nd := sc_Trial___enter__.nd
  refine fn_ok Fd sc_Trial___enter__ fun cdv A outer s H E hr => ?_
  exact (ss_cons (s_attr T.sPast (e_var 0) (e_callTy call_list_of (im_list _) T.list (by decide +kernel) (a_cons (e_attr T.sPast (e_attr T.sDesk (e_var 0))) a_nil))) (ss_cons (s_attr T.sNotes (e_var 0) (e_callTy call_list_of (im_list _) T.list (by decide +kernel) (a_cons (e_attr T.sNotes (e_attr T.sDesk (e_var 0))) a_nil))) (ss_cons (s_attr T.sFloor (e_var 0) (e_attr T.sFloor (e_attr T.sDesk (e_var 0)))) (ss_cons (s_attr T.sFloor (e_attr T.sDesk (e_var 0)) (e_len T.len (a_cons (e_attr T.sNotes (e_var 0)) a_nil))) (ss_one (s_ret (e_attr T.sDesk (e_var 0))))))))
abbrev st_Trial___exit__ : Stmt := inClass (top 42) 3
def b_Trial___exit__ : LS → LH → Out LF := (sCons (sAttr ixPast (eAttr ixDesk (eVar 0)) (eAttr ixPast (eVar 0))) (sCons (sAttr ixNotes (eAttr ixDesk (eVar 0)) (eAttr ixNotes (eVar 0))) (sCons (sAttr ixFloor (eAttr ixDesk (eVar 0)) (eAttr ixFloor (eVar 0))) (sRet (eC (.bl false))))))
def m_Trial___exit__ : Fn := mFn 4 b_Trial___exit__
theorem sc_Trial___exit__ : FnScope [("self" : Str), ("kind" : Str), ("error" : Str), ("trace" : Str)] [("self" : Str), ("kind" : Str), ("error" : Str), ("trace" : Str)] (defScope st_Trial___exit__) := ⟨rfl, rfl, rfl, by decide +kernel, rfl, by decide +kernel, by decide +kernel⟩
theorem ok_Trial___exit__ {P : Program} {w : World} {K : PySem.W.Frag} {mg : Str → Option Value} {base : Heap} {C : Cst} {xB xS xT D1 D2 D3 : Nat → Addr} {f : Addr} {fd : FuncData} (T : TX P w K mg base C xB xS xT D1 D2 D3 misS misE)  (Fd : Fun K "__exit__" "Trial.__exit__" st_Trial___exit__ f fd) : FnOk P w K mg base (L2.CX P w) 3 f fd [("self" : Str), ("kind" : Str), ("error" : Str), ("trace" : Str)] (spM C 4 m_Trial___exit__) := by
  have nd := sc_Trial___exit__.nd
  refine fn_ok Fd sc_Trial___exit__ fun cdv A outer s H E hr => ?_
  exact (ss_cons (s_attr T.sPast (e_attr T.sDesk (e_var 0)) (e_attr T.sPast (e_var 0))) (ss_cons (s_attr T.sNotes (e_attr T.sDesk (e_var 0)) (e_attr T.sNotes (e_var 0))) (ss_cons (s_attr T.sFloor (e_attr T.sDesk (e_var 0)) (e_attr T.sFloor (e_var 0))) (ss_one (s_ret e_bl)))))
end MR
set_option maxHeartbeats 4000000
/-! Mirror 35: try, its suite never entered. -/
namespace MR
open PySem PySem.Spec PyProof.Rows L2
section
variable {C : Cst} {E : XK} {X : Cx}
def tImS (C : Cst) (E : XK) (f : LS → LH → Out LF) : TS := fun D σ H => ∃ ρ h l, Rel C ρ h H ∧ RSl ρ l σ ∧ EndsOk C E ρ D (f l h)
theorem pss_im {b : List Stmt} {f : LS → LH → Out LF} (h : TrSs C E X b f) : PSs X b (tImS C E f) := by
  obtain ⟨t, p, i⟩ := h
  exact ⟨fun pins s σ H D I ⟨ρ, h, l, R, S, o⟩ => p.run pins s σ H D I (i ρ h H l σ D R S o)⟩
def sDead (f : LS → LH → Out LF) : LS → LH → Out LF := fun l h => match f l h with
  | .ok v h1 => .ok v h1
  | _ => .no
theorem s_try0 {body suite : List Stmt} {b₀ : Stmt} {f : LS → LH → Out LF} {x : Str} {np pos pos' : Pos} {c : Addr} (hm : X.mg x = some (.ref c)) (hb : ∀ pn xe, TrSs C E0 (X.tr pn xe) body f) (hs : X.stack = X.env :: X.outer := by rfl) (hf : X.env.frame = some X.env.locals := by rfl) (hg : Gl X x := by rfl) (hd : (x == ("__debug__" : Str)) = false := by decide) :
    TrS C E X (.Try body [.ExceptHandler (some (.Name x np)) none (b₀ :: suite) pos'] [] [] pos) (sDead f) := by
  refine ⟨_, ps_try_only (c := .ref c) (ts := fun _ _ _ _ _ _ => False) (tb := fun _ => tImS C E0 f) hs hf ⟨hg, hd, .inl hm⟩ L2.takes0 (fun W pn xe tk _ => pss_im (hb pn xe)) (fun a oe cls d pn _ _ => ⟨fun _ _ _ _ _ _ z => z.elim⟩), fun ρ h H l σ D R S o => ?_⟩
  refine ⟨ρ, h, l, R, S, ?_⟩
  unfold sDead at o
  cases e : f l h with
  | ok v h1 => rw [e] at o; exact o
  | ex c d h1 => rw [e] at o; exact o.elim
  | no => rw [e] at o; exact o.elim
end
end MR
set_option maxHeartbeats 4000000
namespace MR
open PySem PySem.Spec PyProof.Rows L2
abbrev st_lines_of : Stmt := top 45
def b_lines_of : LS → LH → Out LF := (sCons (sIf (bOr (bNot (tOf (eUn (gIsTy .str) (eVar 0)))) (tOf (eOp gNe (eSl (eVar 0) (oSome (eUn gNeg (eC (.int 1)))) oNone) (eC (.str [10]))))) (sRaise1 8 (tx "row") (eC .non)) sNil) (sRet (eSl (eBM .str gSplit (eVar 0) (aCons (eC (.str [10])) aNil)) oNone (oSome (eUn gNeg (eC (.int 1)))))))
def m_lines_of : Fn := mFn 1 b_lines_of
theorem sc_lines_of : FnScope [("text" : Str)] [("text" : Str)] (defScope st_lines_of) := ⟨rfl, rfl, rfl, by decide +kernel, rfl, by decide +kernel, by decide +kernel⟩
theorem ok_lines_of {P : Program} {w : World} {K : PySem.W.Frag} {mg : Str → Option Value} {base : Heap} {C : Cst} {xB xS xT D1 D2 D3 : Nat → Addr} {f : Addr} {fd : FuncData} (T : TX P w K mg base C xB xS xT D1 D2 D3 misS misE)  (Fd : Fun K "lines_of" "lines_of" st_lines_of f fd) : FnOk P w K mg base (L2.CX P w) 3 f fd [("text" : Str)] (spM C 1 m_lines_of) := by
  have nd := sc_lines_of.nd
  refine fn_ok Fd sc_lines_of fun cdv A outer s H E hr => ?_
  exact (ss_cons (s_if (w_t (w_or (t_not (t_val (e_isTy .str T.isi T.str (e_var 0) (by decide +kernel)))) (w_or1 (t_cmp (op_neD (u64 hr)) (im_ne _) (e_slice (e_var 0) (o_some (e_neg e_int)) o_none) (e_str [10] rfl))))) (ss_one (s_raise1 8 rfl (takes_of rfl rfl rfl rfl) T.xText (hr.mono (by decide)) e_non)) ss_nil) (ss_one (s_ret (e_slice (e_bm .str PySem.F.plainAttrs_str PySem.F.slot_str_split PySem.F.type_str_split mt_split im_split (e_var 0) (a_cons (e_str [10] rfl) a_nil)) o_none (o_some (e_neg e_int))))))
abbrev st_number_in : Stmt := top 46
def b_number_in : LS → LH → Out LF := (sCons (sIf (bOr (tOf (eOp gEq (eVar 0) (eC (.str [])))) (bOr (tOf (eB (gQ false) (aCons (eLc (iText (eVar 0)) (gN 4) bYes (eOp (gIn true) (eVar 4) (eC (.str [48, 49, 50, 51, 52, 53, 54, 55, 56, 57]))) [4]) aNil))) (tOf (eOp gGt (eB gLen (aCons (eVar 0) aNil)) (eC (.int 2)))))) (sRet (eC .non)) sNil) (sCons (sAsg (eB gInt (aCons (eVar 0) aNil)) (gN 3)) (sRet (eIf (bAnd (tOf (eOp gEq (eB gStr (aCons (eVar 3) aNil)) (eVar 0))) (tOf (eChain gLe gLe (eVar 1) (eVar 3) (eVar 2)))) (eVar 3) (eC .non)))))
def m_number_in : Fn := mFn 5 b_number_in
theorem sc_number_in : FnScope [("word" : Str), ("least" : Str), ("most" : Str), ("number" : Str), ("sign" : Str)] [("word" : Str), ("least" : Str), ("most" : Str)] (defScope st_number_in) := ⟨rfl, rfl, rfl, by decide +kernel, rfl, by decide +kernel, by decide +kernel⟩
theorem ok_number_in {P : Program} {w : World} {K : PySem.W.Frag} {mg : Str → Option Value} {base : Heap} {C : Cst} {xB xS xT D1 D2 D3 : Nat → Addr} {f : Addr} {fd : FuncData} (T : TX P w K mg base C xB xS xT D1 D2 D3 misS misE)  (Fd : Fun K "number_in" "number_in" st_number_in f fd) : FnOk P w K mg base (L2.CX P w) 3 f fd [("word" : Str), ("least" : Str), ("most" : Str)] (spM C 3 m_number_in) := by
  have nd := sc_number_in.nd
  refine fn_ok Fd sc_number_in fun cdv A outer s H E hr => ?_
  exact (ss_cons (s_if (w_t (w_or (t_cmp (op_eqD (u64 hr)) (im_eq _) (e_var 0) (e_str [] rfl)) (w_or (t_val (e_callB (cr_any rfl) (im_any _) T.any (by decide +kernel) (a_cons (e_lc [(("sign" : Str), 4)] rfl nd (by kernel_rfl) (by decide) (i_str (e_var 0)) (fun _ _ _ _ _ => (g_name 4 nd)) (fun _ _ _ _ _ => p_nil) (fun _ _ _ _ _ => (e_cmp op_notInM (im_in _ true) (e_var 4) (e_str [48, 49, 50, 51, 52, 53, 54, 55, 56, 57] rfl)))) a_nil))) (w_or1 (t_cmp op_gt im_gt (e_len T.len (a_cons (e_var 0) a_nil)) e_int))))) (ss_one (s_ret e_non)) ss_nil) (ss_cons (s_set 3 nd (e_callTy call_int_str im_int T.int (by decide +kernel) (a_cons (e_var 0) a_nil))) (ss_one (s_ret (e_if (w_t (w_and (t_cmp (op_eqD (u64 hr)) (im_eq _) (e_callTy call_strM im_str T.str (by decide +kernel) (a_cons (e_var 3) a_nil)) (e_var 0)) (w_and1 (t_chain op_le op_le im_le im_le (e_var 1) (e_var 3) (e_var 2))))) (e_var 3) e_non)))))
abbrev st_headed : Stmt := top 47
def b_headed : LS → LH → Out LF := (sCons (sAsg (eBM .str gSplit (eVar 0) (aCons (eC (.str [32])) aNil)) (gN 5)) (sCons (sAsg (eIf (bAnd (tOf (eOp gEq (eB gLen (aCons (eVar 5) aNil)) (eC (.int 2)))) (tOf (eOp gEq (eOp gIx (eVar 5) (eC (.int 0))) (eVar 1)))) (eCall 3 m_number_in (aCons (eOp gIx (eVar 5) (eC (.int 1))) (aCons (eVar 3) (aCons (eVar 4) aNil)))) (eC .non)) (gN 6)) (sCons (sIf (tOf (eUn gIsN (eVar 6))) (sRaise1 8 (tx "row") (eVar 2)) sNil) (sRet (eVar 6)))))
def m_headed : Fn := mFn 7 b_headed
theorem sc_headed : FnScope [("line" : Str), ("head" : Str), ("row" : Str), ("least" : Str), ("most" : Str), ("words" : Str), ("number" : Str)] [("line" : Str), ("head" : Str), ("row" : Str), ("least" : Str), ("most" : Str)] (defScope st_headed) := ⟨rfl, rfl, rfl, by decide +kernel, rfl, by decide +kernel, by decide +kernel⟩
theorem ok_headed {P : Program} {w : World} {K : PySem.W.Frag} {mg : Str → Option Value} {base : Heap} {C : Cst} {xB xS xT D1 D2 D3 : Nat → Addr} {f : Addr} {fd : FuncData} (T : TX P w K mg base C xB xS xT D1 D2 D3 misS misE) (c_number_in : Cal P w K mg base C "number_in" 3 3 m_number_in) (Fd : Fun K "headed" "headed" st_headed f fd) : FnOk P w K mg base (L2.CX P w) 4 f fd [("line" : Str), ("head" : Str), ("row" : Str), ("least" : Str), ("most" : Str)] (spM C 5 m_headed) := by
  have nd := sc_headed.nd
  refine fn_ok Fd sc_headed fun cdv A outer s H E hr => ?_
  exact (ss_cons (s_set 5 nd (e_bm .str PySem.F.plainAttrs_str PySem.F.slot_str_split PySem.F.type_str_split mt_split im_split (e_var 0) (a_cons (e_str [32] rfl) a_nil))) (ss_cons (s_set 6 nd (e_if (w_t (w_and (t_cmp (op_eqD (u64 hr)) (im_eq _) (e_len T.len (a_cons (e_var 5) a_nil)) e_int) (w_and1 (t_cmp (op_eqD (u64 hr)) (im_eq _) (e_ix (e_var 5) e_int) (e_var 1))))) (e_call c_number_in (hr.mono (by decide)) (pass_of rfl rfl rfl rfl) (a_cons (e_ix (e_var 5) e_int) (a_cons (e_var 3) (a_cons (e_var 4) a_nil)))) e_non)) (ss_cons (s_if (t_isN (e_var 6)) (ss_one (s_raise1 8 rfl (takes_of rfl rfl rfl rfl) T.xText (hr.mono (by decide)) (e_var 2))) ss_nil) (ss_one (s_ret (e_var 6))))))
abbrev st_row_in : Stmt := top 48
def b_row_in : LS → LH → Out LF := (sCons (sAsg (eBM .str gSplit (eVar 0) (aCons (eC (.str [32])) aNil)) (gN 3)) (sCons (sIf (tOf (eOp gNe (eUn (gKd tabSizes misS gGet) (eOp gIx (eVar 3) (eC (.int 0)))) (eB gLen (aCons (eVar 3) aNil)))) (sRet (eC .non)) sNil) (sCons (sAsg (eIf (tOf (eOp gEq (eOp gIx (eVar 3) (eC (.int 0))) (eC (.str [112, 117, 116])))) (eNew .lst (aCons (eOp gSub (eVar 1) (eC (.int 1))) (aCons (eOp gSub (eVar 2) (eC (.int 1))) aNil))) (eOp gRep (eNew .lst (aCons (eOp gSub (eVar 1) (eC (.int 1))) aNil)) (eOp gSub (eB gLen (aCons (eVar 3) aNil)) (eC (.int 1))))) (gN 4)) (sCons (sAsg (eLc (iZip2 (aCons (eSl (eVar 3) (oSome (eC (.int 1))) oNone) (aCons (eVar 4) aNil))) (gT 2 (gsCons (gN 6) (gsCons (gN 7) gsNil))) bYes (eCall 3 m_number_in (aCons (eVar 6) (aCons (eC (.int 0)) (aCons (eVar 7) aNil)))) [6, 7]) (gN 5)) (sRet (eIf (tOf (eOp (gIn false) (eC .non) (eVar 5))) (eC .non) (eNew .tup (aCons (eOp gIx (eVar 3) (eC (.int 0))) (aStar (eVar 5) aNil)))))))))
def m_row_in : Fn := mFn 8 b_row_in
theorem sc_row_in : FnScope [("line" : Str), ("many" : Str), ("span" : Str), ("words" : Str), ("tops" : Str), ("numbers" : Str), ("word" : Str), ("top" : Str)] [("line" : Str), ("many" : Str), ("span" : Str)] (defScope st_row_in) := ⟨rfl, rfl, rfl, by decide +kernel, rfl, by decide +kernel, by decide +kernel⟩
theorem ok_row_in {P : Program} {w : World} {K : PySem.W.Frag} {mg : Str → Option Value} {base : Heap} {C : Cst} {xB xS xT D1 D2 D3 : Nat → Addr} {f : Addr} {fd : FuncData} (T : TX P w K mg base C xB xS xT D1 D2 D3 misS misE) (c_number_in : Cal P w K mg base C "number_in" 3 3 m_number_in) (Fd : Fun K "row_in" "row_in" st_row_in f fd) : FnOk P w K mg base (L2.CX P w) 4 f fd [("line" : Str), ("many" : Str), ("span" : Str)] (spM C 3 m_row_in) := by
  have nd := sc_row_in.nd
  refine fn_ok Fd sc_row_in fun cdv A outer s H E hr => ?_
  exact (ss_cons (s_set 3 nd (e_bm .str PySem.F.plainAttrs_str PySem.F.slot_str_split PySem.F.type_str_split mt_split im_split (e_var 0) (a_cons (e_str [32] rfl) a_nil))) (ss_cons (s_if (t_cmp (op_neD (u64 hr)) (im_ne _) (e_kdGet T.sizes (e_ix (e_var 3) e_int)) (e_len T.len (a_cons (e_var 3) a_nil))) (ss_one (s_ret e_non)) ss_nil) (ss_cons (s_set 4 nd (e_if (t_cmp (op_eqD (u64 hr)) (im_eq _) (e_ix (e_var 3) e_int) (e_str [112, 117, 116] rfl)) (e_lst (a_cons (e_op op_sub im_sub (e_var 1) e_int) (a_cons (e_op op_sub im_sub (e_var 2) e_int) a_nil))) (e_op op_rep im_rep (e_lst (a_cons (e_op op_sub im_sub (e_var 1) e_int) a_nil)) (e_op op_sub im_sub (e_len T.len (a_cons (e_var 3) a_nil)) e_int)))) (ss_cons (s_setLc [(("word" : Str), 6), (("top" : Str), 7)] rfl nd (by kernel_rfl) (by decide) (i_zip2 T.zip (a_cons (e_slice (e_var 3) (o_some e_int) o_none) (a_cons (e_var 4) a_nil))) (fun _ _ _ _ _ => (g_tup rfl (gs_cons (g_name 6 nd) (gs_cons (g_name 7 nd) gs_nil)))) (fun _ _ _ _ _ => p_nil) (fun _ _ _ _ _ => (e_call c_number_in (hr.mono (by decide)) passE0 (a_cons (e_var 6) (a_cons e_int (a_cons (e_var 7) a_nil)))))) (ss_one (s_ret (e_if (t_cmp op_inM (im_in _ false) e_non (e_var 5)) e_non (e_tup (a_cons (e_ix (e_var 3) e_int) (a_star (e_var 5) a_nil))))))))))
abbrev st_end_in : Stmt := top 49
def b_end_in : LS → LH → Out LF := (sCons (sAsg (eBM .str gSplit (eVar 0) (aCons (eC (.str [32])) aNil)) (gN 2)) (sCons (sIf (tOf (eOp gNe (eUn (gKd tabEnds misE gGet) (eOp gIx (eVar 2) (eC (.int 0)))) (eB gLen (aCons (eVar 2) aNil)))) (sRet (eC .non)) sNil) (sCons (sAsg (eIf (tOf (eOp gEq (eOp gIx (eVar 2) (eC (.int 0))) (eC (.str [112, 97, 114, 116])))) (eNew .lst (aCons (eOp gSub (eVar 1) (eC (.int 1))) (aCons (eOp gSub (eC (.int 16)) (eC (.int 1))) (aCons (eOp gSub (eC (.int 16)) (eC (.int 1))) aNil)))) (eNew .lst (aCons (eOp gSub (eC (.int 16)) (eC (.int 1))) aNil))) (gN 3)) (sCons (sAsg (eIf (tOf (eOp gEq (eOp gIx (eVar 2) (eC (.int 0))) (eC (.str [112, 97, 114, 116])))) (eNew .lst (aCons (eC (.int 0)) (aCons (eC (.int 1)) (aCons (eC (.int 1)) aNil)))) (eNew .lst (aCons (eC (.int 1)) aNil))) (gN 4)) (sCons (sAsg (eLc (iZip3M (aCons (eSl (eVar 2) (oSome (eC (.int 1))) oNone) (aCons (eVar 4) (aCons (eVar 3) aNil)))) (gT 3 (gsCons (gN 6) (gsCons (gN 7) (gsCons (gN 8) gsNil)))) bYes (eCall 3 m_number_in (aCons (eVar 6) (aCons (eVar 7) (aCons (eVar 8) aNil)))) [6, 7, 8]) (gN 5)) (sRet (eIf (tOf (eOp (gIn false) (eC .non) (eVar 5))) (eC .non) (eNew .tup (aCons (eOp gIx (eVar 2) (eC (.int 0))) (aStar (eVar 5) aNil))))))))))
def m_end_in : Fn := mFn 9 b_end_in
theorem sc_end_in : FnScope [("line" : Str), ("many" : Str), ("words" : Str), ("tops" : Str), ("lows" : Str), ("numbers" : Str), ("word" : Str), ("low" : Str), ("top" : Str)] [("line" : Str), ("many" : Str)] (defScope st_end_in) := ⟨rfl, rfl, rfl, by decide +kernel, rfl, by decide +kernel, by decide +kernel⟩
theorem ok_end_in {P : Program} {w : World} {K : PySem.W.Frag} {mg : Str → Option Value} {base : Heap} {C : Cst} {xB xS xT D1 D2 D3 : Nat → Addr} {f : Addr} {fd : FuncData} (T : TX P w K mg base C xB xS xT D1 D2 D3 misS misE) (c_number_in : Cal P w K mg base C "number_in" 3 3 m_number_in) (Fd : Fun K "end_in" "end_in" st_end_in f fd) : FnOk P w K mg base (L2.CX P w) 4 f fd [("line" : Str), ("many" : Str)] (spM C 2 m_end_in) := by
  have nd := sc_end_in.nd
  refine fn_ok Fd sc_end_in fun cdv A outer s H E hr => ?_
  exact (ss_cons (s_set 2 nd (e_bm .str PySem.F.plainAttrs_str PySem.F.slot_str_split PySem.F.type_str_split mt_split im_split (e_var 0) (a_cons (e_str [32] rfl) a_nil))) (ss_cons (s_if (t_cmp (op_neD (u64 hr)) (im_ne _) (e_kdGet T.ends (e_ix (e_var 2) e_int)) (e_len T.len (a_cons (e_var 2) a_nil))) (ss_one (s_ret e_non)) ss_nil) (ss_cons (s_set 3 nd (e_if (t_cmp (op_eqD (u64 hr)) (im_eq _) (e_ix (e_var 2) e_int) (e_str [112, 97, 114, 116] rfl)) (e_lst (a_cons (e_op op_sub im_sub (e_var 1) e_int) (a_cons (e_op op_sub im_sub (e_gc (.int 16) rfl T.mb) e_int) (a_cons (e_op op_sub im_sub (e_gc (.int 16) rfl T.mb) e_int) a_nil)))) (e_lst (a_cons (e_op op_sub im_sub (e_gc (.int 16) rfl T.mb) e_int) a_nil)))) (ss_cons (s_set 4 nd (e_if (t_cmp (op_eqD (u64 hr)) (im_eq _) (e_ix (e_var 2) e_int) (e_str [112, 97, 114, 116] rfl)) (e_lst (a_cons e_int (a_cons e_int (a_cons e_int a_nil)))) (e_lst (a_cons e_int a_nil)))) (ss_cons (s_setLc [(("word" : Str), 6), (("low" : Str), 7), (("top" : Str), 8)] rfl nd (by kernel_rfl) (by decide) (i_zip3 T.zip (a_cons (e_slice (e_var 2) (o_some e_int) o_none) (a_cons (e_var 4) (a_cons (e_var 3) a_nil)))) (fun _ _ _ _ _ => (g_tup rfl (gs_cons (g_name 6 nd) (gs_cons (g_name 7 nd) (gs_cons (g_name 8 nd) gs_nil))))) (fun _ _ _ _ _ => p_nil) (fun _ _ _ _ _ => (e_call c_number_in (hr.mono (by decide)) passE0 (a_cons (e_var 6) (a_cons (e_var 7) (a_cons (e_var 8) a_nil)))))) (ss_one (s_ret (e_if (t_cmp op_inM (im_in _ false) e_non (e_var 5)) e_non (e_tup (a_cons (e_ix (e_var 2) e_int) (a_star (e_var 5) a_nil)))))))))))
abbrev st_join_in : Stmt := top 50
def b_join_in : LS → LH → Out LF := (sCons (sAsg (eBM .str gSplit (eVar 0) (aCons (eC (.str [32])) aNil)) (gN 2)) (sCons (sAsg (eLc (iSeq lstL (eSl (eVar 2) (oSome (eC (.int 1))) oNone)) (gN 4) bYes (eCall 3 m_number_in (aCons (eVar 4) (aCons (eC (.int 0)) (aCons (eOp gSub (eVar 1) (eC (.int 1))) aNil)))) [4]) (gN 3)) (sRet (eIf (bOr (tOf (eOp gNe (eOp gIx (eVar 2) (eC (.int 0))) (eC (.str [106, 111, 105, 110])))) (bOr (tOf (eOp gEq (eVar 3) (eNew .lst aNil))) (tOf (eOp (gIn false) (eC .non) (eVar 3))))) (eC .non) (eNew .tup (aCons (eOp gIx (eVar 3) (eC (.int 0))) (aCons (eB gTuple (aCons (eSl (eVar 3) (oSome (eC (.int 1))) oNone) aNil)) aNil)))))))
def m_join_in : Fn := mFn 5 b_join_in
theorem sc_join_in : FnScope [("line" : Str), ("many" : Str), ("words" : Str), ("numbers" : Str), ("word" : Str)] [("line" : Str), ("many" : Str)] (defScope st_join_in) := ⟨rfl, rfl, rfl, by decide +kernel, rfl, by decide +kernel, by decide +kernel⟩
theorem ok_join_in {P : Program} {w : World} {K : PySem.W.Frag} {mg : Str → Option Value} {base : Heap} {C : Cst} {xB xS xT D1 D2 D3 : Nat → Addr} {f : Addr} {fd : FuncData} (T : TX P w K mg base C xB xS xT D1 D2 D3 misS misE) (c_number_in : Cal P w K mg base C "number_in" 3 3 m_number_in) (Fd : Fun K "join_in" "join_in" st_join_in f fd) : FnOk P w K mg base (L2.CX P w) 4 f fd [("line" : Str), ("many" : Str)] (spM C 2 m_join_in) := by
  have nd := sc_join_in.nd
  refine fn_ok Fd sc_join_in fun cdv A outer s H E hr => ?_
  exact (ss_cons (s_set 2 nd (e_bm .str PySem.F.plainAttrs_str PySem.F.slot_str_split PySem.F.type_str_split mt_split im_split (e_var 0) (a_cons (e_str [32] rfl) a_nil))) (ss_cons (s_setLc [(("word" : Str), 4)] rfl nd (by kernel_rfl) (by decide) (i_lst (e_slice (e_var 2) (o_some e_int) o_none)) (fun _ _ _ _ _ => (g_name 4 nd)) (fun _ _ _ _ _ => p_nil) (fun _ _ _ _ _ => (e_call c_number_in (hr.mono (by decide)) passE0 (a_cons (e_var 4) (a_cons e_int (a_cons (e_op op_sub im_sub (e_var 1) e_int) a_nil)))))) (ss_one (s_ret (e_if (w_t (w_or (t_cmp (op_neD (u64 hr)) (im_ne _) (e_ix (e_var 2) e_int) (e_str [106, 111, 105, 110] rfl)) (w_or (t_cmp (op_eqD (u64 hr)) (im_eq _) (e_var 3) (e_lst a_nil)) (w_or1 (t_cmp op_inM (im_in _ false) e_non (e_var 3)))))) e_non (e_tup (a_cons (e_ix (e_var 3) e_int) (a_cons (e_callTy call_tuple_of (im_tuple _) T.tuple (by decide +kernel) (a_cons (e_slice (e_var 3) (o_some e_int) o_none) a_nil)) a_nil))))))))
abbrev st_block_at : Stmt := top 51
def b_block_at : LS → LH → Out LF := (sCons (sIf (bOr (tOf (eOp gGe (eVar 1) (eB gLen (aCons (eVar 0) aNil)))) (tOf (eOp gNe (eOp gIx (eVar 0) (eVar 1)) (eC (.str [98, 108, 111, 99, 107]))))) (sRaise1 8 (tx "row") (eVar 1)) sNil) (sCons (sPar3 6 7 8 (aCons (eNew .lst aNil) (aCons (eNew .lst aNil) (aCons (eOp gAdd (eVar 1) (eC (.int 1))) aNil)))) (sCons (loopW (bAnd (tOf (eVar 4)) (bAnd (tOf (eOp gLt (eVar 8) (eB gLen (aCons (eVar 0) aNil)))) (tOf (eUn gNotN (eCall 2 m_join_in (aCons (eOp gIx (eVar 0) (eVar 8)) (aCons (eVar 2) aNil))))))) (sCons (sDrop (eBM .list gAppend (eVar 6) (aCons (eCall 2 m_join_in (aCons (eOp gIx (eVar 0) (eVar 8)) (aCons (eVar 2) aNil))) aNil))) (sAug 8 (eC (.int 1)))) 1000) (sCons (loopW (bAnd (tOf (eOp gLt (eVar 8) (eB gLen (aCons (eVar 0) aNil)))) (tOf (eUn gNotN (eCall 3 m_row_in (aCons (eOp gIx (eVar 0) (eVar 8)) (aCons (eVar 2) (aCons (eVar 3) aNil))))))) (sCons (sDrop (eBM .list gAppend (eVar 7) (aCons (eCall 3 m_row_in (aCons (eOp gIx (eVar 0) (eVar 8)) (aCons (eVar 2) (aCons (eVar 3) aNil)))) aNil))) (sAug 8 (eC (.int 1)))) 1000) (sCons (sAsg (eIf (tOf (eOp gLt (eVar 8) (eB gLen (aCons (eVar 0) aNil)))) (eCall 2 m_end_in (aCons (eOp gIx (eVar 0) (eVar 8)) (aCons (eVar 2) aNil))) (eC .non)) (gN 5)) (sCons (sIf (tOf (eUn gIsN (eVar 5))) (sRaise1 8 (tx "row") (eVar 8)) sNil) (sRet (eNew .tup (aCons (eNew .tup (aCons (eB gTuple (aCons (eVar 6) aNil)) (aCons (eB gTuple (aCons (eVar 7) aNil)) (aCons (eVar 5) aNil)))) (aCons (eOp gAdd (eVar 8) (eC (.int 1))) aNil))))))))))
def m_block_at : Fn := mFn 9 b_block_at
theorem sc_block_at : FnScope [("lines" : Str), ("row" : Str), ("many" : Str), ("span" : Str), ("is_single" : Str), ("end" : Str), ("joins" : Str), ("rows" : Str), ("at" : Str)] [("lines" : Str), ("row" : Str), ("many" : Str), ("span" : Str), ("is_single" : Str)] (defScope st_block_at) := ⟨rfl, rfl, rfl, by decide +kernel, rfl, by decide +kernel, by decide +kernel⟩
theorem ok_block_at {P : Program} {w : World} {K : PySem.W.Frag} {mg : Str → Option Value} {base : Heap} {C : Cst} {xB xS xT D1 D2 D3 : Nat → Addr} {f : Addr} {fd : FuncData} (T : TX P w K mg base C xB xS xT D1 D2 D3 misS misE) (c_join_in : Cal P w K mg base C "join_in" 4 2 m_join_in) (c_row_in : Cal P w K mg base C "row_in" 4 3 m_row_in) (c_end_in : Cal P w K mg base C "end_in" 4 2 m_end_in) (Fd : Fun K "block_at" "block_at" st_block_at f fd) : FnOk P w K mg base (L2.CX P w) 5 f fd [("lines" : Str), ("row" : Str), ("many" : Str), ("span" : Str), ("is_single" : Str)] (spM C 5 m_block_at) := by
  have nd := sc_block_at.nd
  refine fn_ok Fd sc_block_at fun cdv A outer s H E hr => ?_
  exact (ss_cons (s_if (w_t (w_or (t_cmp op_ge im_ge (e_var 1) (e_len T.len (a_cons (e_var 0) a_nil))) (w_or1 (t_cmp (op_neD (u64 hr)) (im_ne _) (e_ix (e_var 0) (e_var 1)) (e_str [98, 108, 111, 99, 107] rfl))))) (ss_one (s_raise1 8 rfl (takes_of rfl rfl rfl rfl) T.xText (hr.mono (by decide)) (e_var 1))) ss_nil) (ss_cons (s_par3 6 7 8 rfl nd (a_cons (e_lst a_nil) (a_cons (e_lst a_nil) (a_cons (e_op op_add im_add (e_var 1) e_int) a_nil)))) (ss_cons (s_while (passes_of rfl) (w_t (w_and (t_val (e_var 4)) (w_and (t_cmp op_lt im_lt (e_var 8) (e_len T.len (a_cons (e_var 0) a_nil))) (w_and1 (t_notN (e_call c_join_in (hr.mono (by decide)) (pass_of rfl rfl rfl rfl) (a_cons (e_ix (e_var 0) (e_var 8)) (a_cons (e_var 2) a_nil)))))))) (ss_cons (s_expr (e_bm .list PySem.F.plainAttrs_list PySem.F.slot_list_append PySem.F.type_list_append mt_append im_append (e_var 6) (a_cons (e_call c_join_in (hr.mono (by decide)) (pass_of rfl rfl rfl rfl) (a_cons (e_ix (e_var 0) (e_var 8)) (a_cons (e_var 2) a_nil))) a_nil))) (ss_one (s_aug 8 nd e_int)))) (ss_cons (s_while (passes_of rfl) (w_t (w_and (t_cmp op_lt im_lt (e_var 8) (e_len T.len (a_cons (e_var 0) a_nil))) (w_and1 (t_notN (e_call c_row_in (hr.mono (by decide)) (pass_of rfl rfl rfl rfl) (a_cons (e_ix (e_var 0) (e_var 8)) (a_cons (e_var 2) (a_cons (e_var 3) a_nil)))))))) (ss_cons (s_expr (e_bm .list PySem.F.plainAttrs_list PySem.F.slot_list_append PySem.F.type_list_append mt_append im_append (e_var 7) (a_cons (e_call c_row_in (hr.mono (by decide)) (pass_of rfl rfl rfl rfl) (a_cons (e_ix (e_var 0) (e_var 8)) (a_cons (e_var 2) (a_cons (e_var 3) a_nil)))) a_nil))) (ss_one (s_aug 8 nd e_int)))) (ss_cons (s_set 5 nd (e_if (t_cmp op_lt im_lt (e_var 8) (e_len T.len (a_cons (e_var 0) a_nil))) (e_call c_end_in (hr.mono (by decide)) (pass_of rfl rfl rfl rfl) (a_cons (e_ix (e_var 0) (e_var 8)) (a_cons (e_var 2) a_nil))) e_non)) (ss_cons (s_if (t_isN (e_var 5)) (ss_one (s_raise1 8 rfl (takes_of rfl rfl rfl rfl) T.xText (hr.mono (by decide)) (e_var 8))) ss_nil) (ss_one (s_ret (e_tup (a_cons (e_tup (a_cons (e_callTy call_tuple_of (im_tuple _) T.tuple (by decide +kernel) (a_cons (e_var 6) a_nil)) (a_cons (e_callTy call_tuple_of (im_tuple _) T.tuple (by decide +kernel) (a_cons (e_var 7) a_nil)) (a_cons (e_var 5) a_nil)))) (a_cons (e_op op_add im_add (e_var 8) e_int) a_nil)))))))))))
abbrev st_blocks_at : Stmt := top 52
def b_blocks_at : LS → LH → Out LF := (sCons (sAsg (eNew .lst aNil) (gN 5)) (sCons (loopW (bOr (tOf (eOp gLt (eVar 1) (eB gLen (aCons (eVar 0) aNil)))) (tOf (eOp gEq (eVar 5) (eNew .lst aNil)))) (sCons (sAsg (eCall 5 m_block_at (aCons (eVar 0) (aCons (eVar 1) (aCons (eVar 2) (aCons (eVar 3) (aCons (eVar 4) aNil)))))) (gT 2 (gsCons (gN 6) (gsCons (gN 1) gsNil)))) (sDrop (eBM .list gAppend (eVar 5) (aCons (eVar 6) aNil)))) 1000) (sRet (eVar 5))))
def m_blocks_at : Fn := mFn 7 b_blocks_at
theorem sc_blocks_at : FnScope [("lines" : Str), ("row" : Str), ("many" : Str), ("span" : Str), ("is_single" : Str), ("found" : Str), ("block" : Str)] [("lines" : Str), ("row" : Str), ("many" : Str), ("span" : Str), ("is_single" : Str)] (defScope st_blocks_at) := ⟨rfl, rfl, rfl, by decide +kernel, rfl, by decide +kernel, by decide +kernel⟩
theorem ok_blocks_at {P : Program} {w : World} {K : PySem.W.Frag} {mg : Str → Option Value} {base : Heap} {C : Cst} {xB xS xT D1 D2 D3 : Nat → Addr} {f : Addr} {fd : FuncData} (T : TX P w K mg base C xB xS xT D1 D2 D3 misS misE) (c_block_at : Cal P w K mg base C "block_at" 5 5 m_block_at) (Fd : Fun K "blocks_at" "blocks_at" st_blocks_at f fd) : FnOk P w K mg base (L2.CX P w) 6 f fd [("lines" : Str), ("row" : Str), ("many" : Str), ("span" : Str), ("is_single" : Str)] (spM C 5 m_blocks_at) := by
  have nd := sc_blocks_at.nd
  refine fn_ok Fd sc_blocks_at fun cdv A outer s H E hr => ?_
  exact (ss_cons (s_set 5 nd (e_lst a_nil)) (ss_cons (s_while (passes_of rfl) (w_t (w_or (t_cmp op_lt im_lt (e_var 1) (e_len T.len (a_cons (e_var 0) a_nil))) (w_or1 (t_cmp (op_eqD (u64 hr)) (im_eq _) (e_var 5) (e_lst a_nil))))) (ss_cons (s_asg (e_call c_block_at (hr.mono (by decide)) (pass_of rfl rfl rfl rfl) (a_cons (e_var 0) (a_cons (e_var 1) (a_cons (e_var 2) (a_cons (e_var 3) (a_cons (e_var 4) a_nil)))))) (g_tup rfl (gs_cons (g_name 6 nd) (gs_cons (g_name 1 nd) gs_nil)))) (ss_one (s_expr (e_bm .list PySem.F.plainAttrs_list PySem.F.slot_list_append PySem.F.type_list_append mt_append im_append (e_var 5) (a_cons (e_var 6) a_nil)))))) (ss_one (s_ret (e_var 5)))))
end MR
set_option maxHeartbeats 4000000
namespace MR
open PySem PySem.Spec PyProof.Rows L2
abbrev st_body_of : Stmt := top 53
def b_body_of : LS → LH → Out LF := (sRet (eLc (iSeq tupL (eNew .tup (aStar (eOp gIx (eVar 0) (eUn gNeg (eC (.int 2)))) (aCons (eOp gIx (eVar 0) (eUn gNeg (eC (.int 1)))) aNil)))) (gN 1) bYes (eBM .str gJoin (eC (.str [32])) (aCons (eLc (iSeq tupL (eVar 1)) (gN 2) bYes (eB gStr (aCons (eVar 2) aNil)) [2]) aNil)) [1]))
def m_body_of : Fn := mFn 3 b_body_of
theorem sc_body_of : FnScope [("block" : Str), ("row" : Str), ("part" : Str)] [("block" : Str)] (defScope st_body_of) := ⟨rfl, rfl, rfl, by decide +kernel, rfl, by decide +kernel, by decide +kernel⟩
theorem ok_body_of {P : Program} {w : World} {K : PySem.W.Frag} {mg : Str → Option Value} {base : Heap} {C : Cst} {xB xS xT D1 D2 D3 : Nat → Addr} {f : Addr} {fd : FuncData} (T : TX P w K mg base C xB xS xT D1 D2 D3 misS misE)  (Fd : Fun K "body_of" "body_of" st_body_of f fd) : FnOk P w K mg base (L2.CX P w) 3 f fd [("block" : Str)] (spM C 1 m_body_of) := by
  have nd := sc_body_of.nd
  refine fn_ok Fd sc_body_of fun cdv A outer s H E hr => ?_
  exact (ss_one (s_ret (e_lc [(("row" : Str), 1)] rfl nd (by kernel_rfl) (by decide) (i_tup (e_tup (a_star (e_ix (e_var 0) (e_neg e_int)) (a_cons (e_ix (e_var 0) (e_neg e_int)) a_nil)))) (fun _ _ _ _ _ => (g_name 1 nd)) (fun _ _ _ _ _ => p_nil) (fun _ _ _ _ _ => (e_bm .str PySem.F.plainAttrs_str PySem.F.slot_str_join PySem.F.type_str_join mt_join (im_join _) (e_str [32] rfl) (a_cons (e_lc [(("part" : Str), 2)] rfl nd (by kernel_rfl) (by decide) (i_tup (e_var 1)) (fun _ _ _ _ _ => (g_name 2 nd)) (fun _ _ _ _ _ => p_nil) (fun _ _ _ _ _ => (e_callTy call_strM im_str T.str (by decide +kernel) (a_cons (e_var 2) a_nil)))) a_nil))))))
abbrev st_written : Stmt := top 54
def b_written : LS → LH → Out LF := (sCons (sDrop (eCall 1 m_check_program (aCons (eVar 0) aNil))) (sCons (sAsg (eNew .lst (aCons (eOp gCat (eC (.str [109, 97, 110, 121, 32])) (eB gStr (aCons (eAttr ixMany (eVar 0)) aNil))) (aCons (eOp gCat (eC (.str [104, 97, 110, 100, 101, 100, 32])) (eB gStr (aCons (eAttr ixHanded (eVar 0)) aNil))) (aCons (eOp gCat (eC (.str [115, 112, 97, 110, 32])) (eB gStr (aCons (eAttr ixSpan (eVar 0)) aNil))) aNil)))) (gN 1)) (sCons (sFor (iSeq tupL (eAttr ixBlocks (eVar 0))) (gN 2) (sDrop (eBM .list gExtend (eVar 1) (aCons (eNew .lst (aCons (eC (.str [98, 108, 111, 99, 107])) (aStar (eCall 1 m_body_of (aCons (eVar 2) aNil)) aNil))) aNil)))) (sRet (eOp gCat (eBM .str gJoin (eC (.str [10])) (aCons (eVar 1) aNil)) (eC (.str [10])))))))
def m_written : Fn := mFn 3 b_written
theorem sc_written : FnScope [("program" : Str), ("lines" : Str), ("block" : Str)] [("program" : Str)] (defScope st_written) := ⟨rfl, rfl, rfl, by decide +kernel, rfl, by decide +kernel, by decide +kernel⟩
theorem ok_written {P : Program} {w : World} {K : PySem.W.Frag} {mg : Str → Option Value} {base : Heap} {C : Cst} {xB xS xT D1 D2 D3 : Nat → Addr} {f : Addr} {fd : FuncData} (T : TX P w K mg base C xB xS xT D1 D2 D3 misS misE) (c_check_program : Cal P w K mg base C "check_program" 3 1 m_check_program) (c_body_of : Cal P w K mg base C "body_of" 3 1 m_body_of) (Fd : Fun K "written" "written" st_written f fd) : FnOk P w K mg base (L2.CX P w) 4 f fd [("program" : Str)] (spM C 1 m_written) := by
  have nd := sc_written.nd
  refine fn_ok Fd sc_written fun cdv A outer s H E hr => ?_
  exact (ss_cons (s_expr (e_call c_check_program (hr.mono (by decide)) (pass_of rfl rfl rfl rfl) (a_cons (e_var 0) a_nil))) (ss_cons (s_set 1 nd (e_lst (a_cons (e_op op_add_str im_cat (e_str [109, 97, 110, 121, 32] rfl) (e_callTy call_strM im_str T.str (by decide +kernel) (a_cons (e_attr T.sMany (e_var 0)) a_nil))) (a_cons (e_op op_add_str im_cat (e_str [104, 97, 110, 100, 101, 100, 32] rfl) (e_callTy call_strM im_str T.str (by decide +kernel) (a_cons (e_attr T.sHanded (e_var 0)) a_nil))) (a_cons (e_op op_add_str im_cat (e_str [115, 112, 97, 110, 32] rfl) (e_callTy call_strM im_str T.str (by decide +kernel) (a_cons (e_attr T.sSpan (e_var 0)) a_nil))) a_nil))))) (ss_cons (s_for (passes_of rfl) rfl (i_tup (e_attr T.sBlocks (e_var 0))) (g_name 2 nd) (ss_one (s_expr (e_bm .list PySem.F.plainAttrs_list PySem.F.slot_list_extend PySem.F.type_list_extend mt_extend im_extend (e_var 1) (a_cons (e_lst (a_cons (e_str [98, 108, 111, 99, 107] rfl) (a_star (e_call c_body_of (hr.mono (by decide)) (pass_of rfl rfl rfl rfl) (a_cons (e_var 2) a_nil)) a_nil))) a_nil))))) (ss_one (s_ret (e_op op_add_str im_cat (e_bm .str PySem.F.plainAttrs_str PySem.F.slot_str_join PySem.F.type_str_join mt_join (im_join _) (e_str [10] rfl) (a_cons (e_var 1) a_nil)) (e_str [10] rfl)))))))
abbrev st_read : Stmt := top 55
def b_read : LS → LH → Out LF := (sCons (sAsg (eCall 1 m_lines_of (aCons (eVar 0) aNil)) (gN 1)) (sCons (sAsg (eCall 5 m_headed (aCons (eOp gIx (eVar 1) (eC (.int 0))) (aCons (eC (.str [109, 97, 110, 121])) (aCons (eC (.int 0)) (aCons (eC (.int 1)) (aCons (eC (.int 8)) aNil)))))) (gN 2)) (sCons (sAsg (eCall 5 m_headed (aCons (eIf (tOf (eOp gGt (eB gLen (aCons (eVar 1) aNil)) (eC (.int 1)))) (eOp gIx (eVar 1) (eC (.int 1))) (eC (.str []))) (aCons (eC (.str [104, 97, 110, 100, 101, 100])) (aCons (eC (.int 1)) (aCons (eC (.int 0)) (aCons (eB gMin (aCons (eVar 2) (aCons (eC (.int 3)) aNil))) aNil)))))) (gN 3)) (sCons (sAsg (eCall 5 m_headed (aCons (eIf (tOf (eOp gGt (eB gLen (aCons (eVar 1) aNil)) (eC (.int 2)))) (eOp gIx (eVar 1) (eC (.int 2))) (eC (.str []))) (aCons (eC (.str [115, 112, 97, 110])) (aCons (eC (.int 2)) (aCons (eC (.int 2)) (aCons (eC (.int 8)) aNil)))))) (gN 4)) (sCons (sAsg (eCall 5 m_blocks_at (aCons (eVar 1) (aCons (eC (.int 3)) (aCons (eVar 2) (aCons (eVar 4) (aCons (eC (.bl false)) aNil)))))) (gN 5)) (sDead (sRet (eMakeK 26 2 ([("handed" : Str), ("span" : Str)] : List Str).length m_Program___init__ (aCons (eVar 2) (aCons (eB gTuple (aCons (eLc (iSeq lstL (eVar 5)) (gN 6) bYes (eSl (eVar 6) (oSome (eC (.int 1))) oNone) [6]) aNil)) aNil)) (aCons (eVar 3) (aCons (eVar 4) aNil))))))))))
def m_read : Fn := mFn 7 b_read
theorem sc_read : FnScope [("text" : Str), ("lines" : Str), ("many" : Str), ("handed" : Str), ("span" : Str), ("blocks" : Str), ("block" : Str)] [("text" : Str)] (defScope st_read) := ⟨rfl, rfl, rfl, by decide +kernel, rfl, by decide +kernel, by decide +kernel⟩
theorem ok_read {P : Program} {w : World} {K : PySem.W.Frag} {mg : Str → Option Value} {base : Heap} {C : Cst} {xB xS xT D1 D2 D3 : Nat → Addr} {f : Addr} {fd : FuncData} (T : TX P w K mg base C xB xS xT D1 D2 D3 misS misE) (c_lines_of : Cal P w K mg base C "lines_of" 3 1 m_lines_of) (c_headed : Cal P w K mg base C "headed" 4 5 m_headed) (c_blocks_at : Cal P w K mg base C "blocks_at" 6 5 m_blocks_at) (kk_Program : MkK P w K mg base C "Program" 26 6 2 [("handed" : Str), ("span" : Str)] m_Program___init__) (Fd : Fun K "read" "read" st_read f fd) : FnOk P w K mg base (L2.CX P w) 8 f fd [("text" : Str)] (spM C 1 m_read) := by
  have nd := sc_read.nd
  refine fn_ok Fd sc_read fun cdv A outer s H E hr => ?_
  exact (ss_cons (s_set 1 nd (e_call c_lines_of (hr.mono (by decide)) (pass_of rfl rfl rfl rfl) (a_cons (e_var 0) a_nil))) (ss_cons (s_set 2 nd (e_call c_headed (hr.mono (by decide)) (pass_of rfl rfl rfl rfl) (a_cons (e_ix (e_var 1) e_int) (a_cons (e_str [109, 97, 110, 121] rfl) (a_cons e_int (a_cons e_int (a_cons (e_gc (.int 8) rfl T.mv) a_nil))))))) (ss_cons (s_set 3 nd (e_call c_headed (hr.mono (by decide)) (pass_of rfl rfl rfl rfl) (a_cons (e_if (t_cmp op_gt im_gt (e_len T.len (a_cons (e_var 1) a_nil)) e_int) (e_ix (e_var 1) e_int) (e_str [] rfl)) (a_cons (e_str [104, 97, 110, 100, 101, 100] rfl) (a_cons e_int (a_cons e_int (a_cons (e_callB (call_min2 rfl) im_min T.min (by decide +kernel) (a_cons (e_var 2) (a_cons (e_gc (.int 3) rfl T.mh) a_nil))) a_nil))))))) (ss_cons (s_set 4 nd (e_call c_headed (hr.mono (by decide)) (pass_of rfl rfl rfl rfl) (a_cons (e_if (t_cmp op_gt im_gt (e_len T.len (a_cons (e_var 1) a_nil)) e_int) (e_ix (e_var 1) e_int) (e_str [] rfl)) (a_cons (e_str [115, 112, 97, 110] rfl) (a_cons e_int (a_cons e_int (a_cons (e_gc (.int 8) rfl T.ms) a_nil))))))) (ss_cons (s_set 5 nd (e_call c_blocks_at (hr.mono (by decide)) (pass_of rfl rfl rfl rfl) (a_cons (e_var 1) (a_cons e_int (a_cons (e_var 2) (a_cons (e_var 4) (a_cons e_bl a_nil))))))) (ss_one (s_try0 T.xProgram.name fun pn xe => (ss_one (s_ret (e_makeK kk_Program (hr.mono (by decide)) passE0 (a_cons (e_var 2) (a_cons (e_callTy call_tuple_of (im_tuple _) T.tuple (by decide +kernel) (a_cons (e_lc [(("block" : Str), 6)] rfl nd (by kernel_rfl) (by decide) (i_lst (e_var 5)) (fun _ _ _ _ _ => (g_name 6 nd)) (fun _ _ _ _ _ => p_nil) (fun _ _ _ _ _ => (e_slice (e_var 6) (o_some e_int) o_none))) a_nil)) a_nil)) (k_cons (e_var 3) (k_cons (e_var 4) k_nil))))))))))))
abbrev st_written_single : Stmt := top 56
def b_written_single : LS → LH → Out LF := (sCons (sDrop (eCall 1 m_check_single (aCons (eVar 0) aNil))) (sCons (sAsg (eNew .lst (aCons (eOp gCat (eC (.str [115, 105, 110, 103, 108, 101, 32])) (eB gStr (aCons (eAttr ixMany (eVar 0)) aNil))) (aCons (eBM .str gJoin (eC (.str [32])) (aCons (eNew .lst (aCons (eC (.str [104, 97, 110, 100, 101, 100])) (aStar (eLc (iSeq tupL (eAttr ixHanded (eVar 0))) (gN 3) bYes (eB gStr (aCons (eVar 3) aNil)) [3]) aNil))) aNil)) aNil))) (gN 1)) (sCons (sDrop (eBM .list gAppend (eVar 1) (aCons (eOp gCat (eC (.str [115, 112, 97, 110, 32])) (eB gStr (aCons (eAttr ixSpan (eVar 0)) aNil))) aNil))) (sCons (sFor (iSeq tupL (eAttr ixBlocks (eVar 0))) (gN 2) (sCons (sDrop (eBM .list gAppend (eVar 1) (aCons (eC (.str [98, 108, 111, 99, 107])) aNil))) (sCons (sDrop (eBM .list gExtend (eVar 1) (aCons (eLc (iSeq tupL (eOp gIx (eVar 2) (eC (.int 0)))) (gT 2 (gsCons (gN 3) (gsCons (gN 4) gsNil))) bYes (eBM .str gJoin (eC (.str [32])) (aCons (eNew .lst (aCons (eC (.str [106, 111, 105, 110])) (aCons (eB gStr (aCons (eVar 3) aNil)) (aStar (eLc (iSeq tupL (eVar 4)) (gN 5) bYes (eB gStr (aCons (eVar 5) aNil)) [5]) aNil)))) aNil)) [3, 4]) aNil))) (sDrop (eBM .list gExtend (eVar 1) (aCons (eCall 1 m_body_of (aCons (eVar 2) aNil)) aNil)))))) (sRet (eOp gCat (eBM .str gJoin (eC (.str [10])) (aCons (eVar 1) aNil)) (eC (.str [10]))))))))
def m_written_single : Fn := mFn 6 b_written_single
theorem sc_written_single : FnScope [("single" : Str), ("lines" : Str), ("block" : Str), ("one" : Str), ("some" : Str), ("other" : Str)] [("single" : Str)] (defScope st_written_single) := ⟨rfl, rfl, rfl, by decide +kernel, rfl, by decide +kernel, by decide +kernel⟩
theorem ok_written_single {P : Program} {w : World} {K : PySem.W.Frag} {mg : Str → Option Value} {base : Heap} {C : Cst} {xB xS xT D1 D2 D3 : Nat → Addr} {f : Addr} {fd : FuncData} (T : TX P w K mg base C xB xS xT D1 D2 D3 misS misE) (c_check_single : Cal P w K mg base C "check_single" 3 1 m_check_single) (c_body_of : Cal P w K mg base C "body_of" 3 1 m_body_of) (Fd : Fun K "written_single" "written_single" st_written_single f fd) : FnOk P w K mg base (L2.CX P w) 4 f fd [("single" : Str)] (spM C 1 m_written_single) := by
  have nd := sc_written_single.nd
  refine fn_ok Fd sc_written_single fun cdv A outer s H E hr => ?_
  exact (ss_cons (s_expr (e_call c_check_single (hr.mono (by decide)) (pass_of rfl rfl rfl rfl) (a_cons (e_var 0) a_nil))) (ss_cons (s_set 1 nd (e_lst (a_cons (e_op op_add_str im_cat (e_str [115, 105, 110, 103, 108, 101, 32] rfl) (e_callTy call_strM im_str T.str (by decide +kernel) (a_cons (e_attr T.sMany (e_var 0)) a_nil))) (a_cons (e_bm .str PySem.F.plainAttrs_str PySem.F.slot_str_join PySem.F.type_str_join mt_join (im_join _) (e_str [32] rfl) (a_cons (e_lst (a_cons (e_str [104, 97, 110, 100, 101, 100] rfl) (a_star (e_lc [(("one" : Str), 3)] rfl nd (by kernel_rfl) (by decide) (i_tup (e_attr T.sHanded (e_var 0))) (fun _ _ _ _ _ => (g_name 3 nd)) (fun _ _ _ _ _ => p_nil) (fun _ _ _ _ _ => (e_callTy call_strM im_str T.str (by decide +kernel) (a_cons (e_var 3) a_nil)))) a_nil))) a_nil)) a_nil)))) (ss_cons (s_expr (e_bm .list PySem.F.plainAttrs_list PySem.F.slot_list_append PySem.F.type_list_append mt_append im_append (e_var 1) (a_cons (e_op op_add_str im_cat (e_str [115, 112, 97, 110, 32] rfl) (e_callTy call_strM im_str T.str (by decide +kernel) (a_cons (e_attr T.sSpan (e_var 0)) a_nil))) a_nil))) (ss_cons (s_for (passes_of rfl) rfl (i_tup (e_attr T.sBlocks (e_var 0))) (g_name 2 nd) (ss_cons (s_expr (e_bm .list PySem.F.plainAttrs_list PySem.F.slot_list_append PySem.F.type_list_append mt_append im_append (e_var 1) (a_cons (e_str [98, 108, 111, 99, 107] rfl) a_nil))) (ss_cons (s_expr (e_bm .list PySem.F.plainAttrs_list PySem.F.slot_list_extend PySem.F.type_list_extend mt_extend im_extend (e_var 1) (a_cons (e_lc [(("one" : Str), 3), (("some" : Str), 4)] rfl nd (by kernel_rfl) (by decide) (i_tup (e_ix (e_var 2) e_int)) (fun _ _ _ _ _ => (g_tup rfl (gs_cons (g_name 3 nd) (gs_cons (g_name 4 nd) gs_nil)))) (fun _ _ _ _ _ => p_nil) (fun _ _ _ _ _ => (e_bm .str PySem.F.plainAttrs_str PySem.F.slot_str_join PySem.F.type_str_join mt_join (im_join _) (e_str [32] rfl) (a_cons (e_lst (a_cons (e_str [106, 111, 105, 110] rfl) (a_cons (e_callTy call_strM im_str T.str (by decide +kernel) (a_cons (e_var 3) a_nil)) (a_star (e_lc [(("other" : Str), 5)] rfl nd (by kernel_rfl) (by decide) (i_tup (e_var 4)) (fun _ _ _ _ _ => (g_name 5 nd)) (fun _ _ _ _ _ => p_nil) (fun _ _ _ _ _ => (e_callTy call_strM im_str T.str (by decide +kernel) (a_cons (e_var 5) a_nil)))) a_nil)))) a_nil)))) a_nil))) (ss_one (s_expr (e_bm .list PySem.F.plainAttrs_list PySem.F.slot_list_extend PySem.F.type_list_extend mt_extend im_extend (e_var 1) (a_cons (e_call c_body_of (hr.mono (by decide)) (pass_of rfl rfl rfl rfl) (a_cons (e_var 2) a_nil)) a_nil))))))) (ss_one (s_ret (e_op op_add_str im_cat (e_bm .str PySem.F.plainAttrs_str PySem.F.slot_str_join PySem.F.type_str_join mt_join (im_join _) (e_str [10] rfl) (a_cons (e_var 1) a_nil)) (e_str [10] rfl))))))))
abbrev st_handed_in : Stmt := top 57
def b_handed_in : LS → LH → Out LF := (sCons (sAsg (eBM .str gSplit (eVar 0) (aCons (eC (.str [32])) aNil)) (gN 3)) (sCons (sAsg (eLc (iSeq lstL (eSl (eVar 3) (oSome (eC (.int 1))) oNone)) (gN 5) bYes (eCall 3 m_number_in (aCons (eVar 5) (aCons (eC (.int 0)) (aCons (eOp gSub (eVar 1) (eC (.int 1))) aNil)))) [5]) (gN 4)) (sCons (sIf (bOr (tOf (eOp gNe (eOp gIx (eVar 3) (eC (.int 0))) (eC (.str [104, 97, 110, 100, 101, 100])))) (bOr (tOf (eOp (gIn false) (eC .non) (eVar 4))) (tOf (eOp gGt (eB gLen (aCons (eVar 4) aNil)) (eC (.int 3)))))) (sRaise1 8 (tx "row") (eVar 2)) sNil) (sRet (eB gTuple (aCons (eVar 4) aNil))))))
def m_handed_in : Fn := mFn 6 b_handed_in
theorem sc_handed_in : FnScope [("line" : Str), ("many" : Str), ("row" : Str), ("words" : Str), ("numbers" : Str), ("word" : Str)] [("line" : Str), ("many" : Str), ("row" : Str)] (defScope st_handed_in) := ⟨rfl, rfl, rfl, by decide +kernel, rfl, by decide +kernel, by decide +kernel⟩
theorem ok_handed_in {P : Program} {w : World} {K : PySem.W.Frag} {mg : Str → Option Value} {base : Heap} {C : Cst} {xB xS xT D1 D2 D3 : Nat → Addr} {f : Addr} {fd : FuncData} (T : TX P w K mg base C xB xS xT D1 D2 D3 misS misE) (c_number_in : Cal P w K mg base C "number_in" 3 3 m_number_in) (Fd : Fun K "handed_in" "handed_in" st_handed_in f fd) : FnOk P w K mg base (L2.CX P w) 4 f fd [("line" : Str), ("many" : Str), ("row" : Str)] (spM C 3 m_handed_in) := by
  have nd := sc_handed_in.nd
  refine fn_ok Fd sc_handed_in fun cdv A outer s H E hr => ?_
  exact (ss_cons (s_set 3 nd (e_bm .str PySem.F.plainAttrs_str PySem.F.slot_str_split PySem.F.type_str_split mt_split im_split (e_var 0) (a_cons (e_str [32] rfl) a_nil))) (ss_cons (s_setLc [(("word" : Str), 5)] rfl nd (by kernel_rfl) (by decide) (i_lst (e_slice (e_var 3) (o_some e_int) o_none)) (fun _ _ _ _ _ => (g_name 5 nd)) (fun _ _ _ _ _ => p_nil) (fun _ _ _ _ _ => (e_call c_number_in (hr.mono (by decide)) passE0 (a_cons (e_var 5) (a_cons e_int (a_cons (e_op op_sub im_sub (e_var 1) e_int) a_nil)))))) (ss_cons (s_if (w_t (w_or (t_cmp (op_neD (u64 hr)) (im_ne _) (e_ix (e_var 3) e_int) (e_str [104, 97, 110, 100, 101, 100] rfl)) (w_or (t_cmp op_inM (im_in _ false) e_non (e_var 4)) (w_or1 (t_cmp op_gt im_gt (e_len T.len (a_cons (e_var 4) a_nil)) (e_gc (.int 3) rfl T.mh)))))) (ss_one (s_raise1 8 rfl (takes_of rfl rfl rfl rfl) T.xText (hr.mono (by decide)) (e_var 2))) ss_nil) (ss_one (s_ret (e_callTy call_tuple_of (im_tuple _) T.tuple (by decide +kernel) (a_cons (e_var 4) a_nil)))))))
abbrev st_read_single : Stmt := top 58
def b_read_single : LS → LH → Out LF := (sCons (sAsg (eCall 1 m_lines_of (aCons (eVar 0) aNil)) (gN 1)) (sCons (sAsg (eCall 5 m_headed (aCons (eOp gIx (eVar 1) (eC (.int 0))) (aCons (eC (.str [115, 105, 110, 103, 108, 101])) (aCons (eC (.int 0)) (aCons (eC (.int 1)) (aCons (eC (.int 48)) aNil)))))) (gN 2)) (sCons (sAsg (eCall 3 m_handed_in (aCons (eIf (tOf (eOp gGt (eB gLen (aCons (eVar 1) aNil)) (eC (.int 1)))) (eOp gIx (eVar 1) (eC (.int 1))) (eC (.str []))) (aCons (eVar 2) (aCons (eC (.int 1)) aNil)))) (gN 3)) (sCons (sAsg (eCall 5 m_headed (aCons (eIf (tOf (eOp gGt (eB gLen (aCons (eVar 1) aNil)) (eC (.int 2)))) (eOp gIx (eVar 1) (eC (.int 2))) (eC (.str []))) (aCons (eC (.str [115, 112, 97, 110])) (aCons (eC (.int 2)) (aCons (eC (.int 2)) (aCons (eC (.int 8)) aNil)))))) (gN 4)) (sCons (sAsg (eCall 5 m_blocks_at (aCons (eVar 1) (aCons (eC (.int 3)) (aCons (eVar 2) (aCons (eVar 4) (aCons (eC (.bl true)) aNil)))))) (gN 5)) (sDead (sRet (eMakeK 38 3 ([("span" : Str)] : List Str).length m_Single___init__ (aCons (eVar 2) (aCons (eVar 3) (aCons (eB gTuple (aCons (eVar 5) aNil)) aNil))) (aCons (eVar 4) aNil)))))))))
def m_read_single : Fn := mFn 6 b_read_single
theorem sc_read_single : FnScope [("text" : Str), ("lines" : Str), ("many" : Str), ("handed" : Str), ("span" : Str), ("blocks" : Str)] [("text" : Str)] (defScope st_read_single) := ⟨rfl, rfl, rfl, by decide +kernel, rfl, by decide +kernel, by decide +kernel⟩
theorem ok_read_single {P : Program} {w : World} {K : PySem.W.Frag} {mg : Str → Option Value} {base : Heap} {C : Cst} {xB xS xT D1 D2 D3 : Nat → Addr} {f : Addr} {fd : FuncData} (T : TX P w K mg base C xB xS xT D1 D2 D3 misS misE) (c_lines_of : Cal P w K mg base C "lines_of" 3 1 m_lines_of) (c_headed : Cal P w K mg base C "headed" 4 5 m_headed) (c_handed_in : Cal P w K mg base C "handed_in" 4 3 m_handed_in) (c_blocks_at : Cal P w K mg base C "blocks_at" 6 5 m_blocks_at) (kk_Single : MkK P w K mg base C "Single" 38 11 3 [("span" : Str)] m_Single___init__) (Fd : Fun K "read_single" "read_single" st_read_single f fd) : FnOk P w K mg base (L2.CX P w) 13 f fd [("text" : Str)] (spM C 1 m_read_single) := by
  have nd := sc_read_single.nd
  refine fn_ok Fd sc_read_single fun cdv A outer s H E hr => ?_
  exact (ss_cons (s_set 1 nd (e_call c_lines_of (hr.mono (by decide)) (pass_of rfl rfl rfl rfl) (a_cons (e_var 0) a_nil))) (ss_cons (s_set 2 nd (e_call c_headed (hr.mono (by decide)) (pass_of rfl rfl rfl rfl) (a_cons (e_ix (e_var 1) e_int) (a_cons (e_str [115, 105, 110, 103, 108, 101] rfl) (a_cons e_int (a_cons e_int (a_cons (e_gc (.int 48) rfl T.m1) a_nil))))))) (ss_cons (s_set 3 nd (e_call c_handed_in (hr.mono (by decide)) (pass_of rfl rfl rfl rfl) (a_cons (e_if (t_cmp op_gt im_gt (e_len T.len (a_cons (e_var 1) a_nil)) e_int) (e_ix (e_var 1) e_int) (e_str [] rfl)) (a_cons (e_var 2) (a_cons e_int a_nil))))) (ss_cons (s_set 4 nd (e_call c_headed (hr.mono (by decide)) (pass_of rfl rfl rfl rfl) (a_cons (e_if (t_cmp op_gt im_gt (e_len T.len (a_cons (e_var 1) a_nil)) e_int) (e_ix (e_var 1) e_int) (e_str [] rfl)) (a_cons (e_str [115, 112, 97, 110] rfl) (a_cons e_int (a_cons e_int (a_cons (e_gc (.int 8) rfl T.ms) a_nil))))))) (ss_cons (s_set 5 nd (e_call c_blocks_at (hr.mono (by decide)) (pass_of rfl rfl rfl rfl) (a_cons (e_var 1) (a_cons e_int (a_cons (e_var 2) (a_cons (e_var 4) (a_cons e_bl a_nil))))))) (ss_one (s_try0 T.xSingle.name fun pn xe => (ss_one (s_ret (e_makeK kk_Single (hr.mono (by decide)) passE0 (a_cons (e_var 2) (a_cons (e_var 3) (a_cons (e_callTy call_tuple_of (im_tuple _) T.tuple (by decide +kernel) (a_cons (e_var 5) a_nil)) a_nil))) (k_cons (e_var 4) k_nil)))))))))))
end MR
set_option maxHeartbeats 4000000
namespace MR
open PySem PySem.Spec PyProof.Rows L2
def lamq (q : Str) : Str := q ++ ".<locals>." ++ "<lambda>"
abbrev st__law_pair : Stmt := top 61
def b__law_pair : LS → LH → Out LF := (sCons (sAsg (eMake 26 5 m_Program___init__ [.int 0, .int 4] (aCons (eC (.int 2)) (aCons (eNew .tup (aCons (eNew .tup (aCons (eNew .tup (aCons (eNew .tup (aCons (eC (.str [116, 97, 107, 101])) (aCons (eC (.int 0)) aNil))) (aCons (eNew .tup (aCons (eC (.str [116, 101, 108, 108])) (aCons (eC (.int 0)) aNil))) aNil))) (aCons (eNew .tup (aCons (eC (.str [103, 111])) (aCons (eC (.int 1)) aNil))) aNil))) (aCons (eNew .tup (aCons (eNew .tup aNil) (aCons (eNew .tup (aCons (eC (.str [115, 116, 111, 112])) aNil)) aNil))) aNil))) aNil))) (gN 0)) (sRet (eNew .tup (aCons (eVar 0) (aCons (eMake 38 5 m_Single___init__ [.int 4] (aCons (eC (.int 1)) (aCons (eNew .tup aNil) (aCons (eNew .tup (aCons (eNew .tup (aCons (eNew .tup aNil) (aCons (eNew .tup (aCons (eNew .tup (aCons (eC (.str [116, 97, 107, 101])) (aCons (eC (.int 0)) aNil))) (aCons (eNew .tup (aCons (eC (.str [116, 101, 108, 108])) (aCons (eC (.int 0)) aNil))) aNil))) (aCons (eNew .tup (aCons (eC (.str [103, 111])) (aCons (eC (.int 1)) aNil))) aNil)))) (aCons (eNew .tup (aCons (eNew .tup aNil) (aCons (eNew .tup aNil) (aCons (eNew .tup (aCons (eC (.str [115, 116, 111, 112])) aNil)) aNil)))) aNil))) aNil)))) aNil)))))
def m__law_pair : Fn := mFn 1 b__law_pair
theorem sc__law_pair : FnScope [("_law_plain" : Str)] [] (defScope st__law_pair) := ⟨rfl, rfl, rfl, by decide +kernel, rfl, by decide +kernel, by decide +kernel⟩
theorem ok__law_pair {P : Program} {w : World} {K : PySem.W.Frag} {mg : Str → Option Value} {base : Heap} {C : Cst} {xB xS xT D1 D2 D3 : Nat → Addr} {f : Addr} {fd : FuncData} (T : TX P w K mg base C xB xS xT D1 D2 D3 misS misE) (k_Program : MkT P w K mg base C "Program" 26 6 5 m_Program___init__ [.int 0, .int 4]) (k_Single : MkT P w K mg base C "Single" 38 11 5 m_Single___init__ [.int 4]) (Fd : Fun K "_law_pair" "_law_pair" st__law_pair f fd) : FnOk P w K mg base (L2.CX P w) 13 f fd [] (spM C 0 m__law_pair) := by
  have nd := sc__law_pair.nd
  refine fn_ok Fd sc__law_pair fun cdv A outer s H E hr => ?_
  exact (ss_cons (s_set 0 nd (e_make k_Program (hr.mono (by decide)) (pass_of rfl rfl rfl rfl) (a_cons e_int (a_cons (e_tup (a_cons (e_tup (a_cons (e_tup (a_cons (e_tup (a_cons (e_str [116, 97, 107, 101] rfl) (a_cons e_int a_nil))) (a_cons (e_tup (a_cons (e_str [116, 101, 108, 108] rfl) (a_cons e_int a_nil))) a_nil))) (a_cons (e_tup (a_cons (e_str [103, 111] rfl) (a_cons e_int a_nil))) a_nil))) (a_cons (e_tup (a_cons (e_tup a_nil) (a_cons (e_tup (a_cons (e_str [115, 116, 111, 112] rfl) a_nil)) a_nil))) a_nil))) a_nil)))) (ss_one (s_ret (e_tup (a_cons (e_var 0) (a_cons (e_make k_Single (hr.mono (by decide)) (pass_of rfl rfl rfl rfl) (a_cons e_int (a_cons (e_tup a_nil) (a_cons (e_tup (a_cons (e_tup (a_cons (e_tup a_nil) (a_cons (e_tup (a_cons (e_tup (a_cons (e_str [116, 97, 107, 101] rfl) (a_cons e_int a_nil))) (a_cons (e_tup (a_cons (e_str [116, 101, 108, 108] rfl) (a_cons e_int a_nil))) a_nil))) (a_cons (e_tup (a_cons (e_str [103, 111] rfl) (a_cons e_int a_nil))) a_nil)))) (a_cons (e_tup (a_cons (e_tup a_nil) (a_cons (e_tup a_nil) (a_cons (e_tup (a_cons (e_str [115, 116, 111, 112] rfl) a_nil)) a_nil)))) a_nil))) a_nil)))) a_nil))))))
abbrev st__law_texts_right : Stmt := top 62
def b__law_texts_right : LS → LH → Out LF := (sCons (sFor (iSeq tupL (eNew .tup (aCons (eC .non) (aCons (eC (.int 5)) (aCons (eC (.str [109, 97, 110, 121, 32, 49])) (aCons (eNew .tup aNil) (aCons (eNew .lst aNil) (aCons (eB gDict (aCons (eNew .lst aNil) aNil)) (aCons (eC (.bl true)) aNil))))))))) (gN 2) (sCons (sIf (tOf (eOp gNe (eWord (eCall 1 m_written (aCons (eVar 2) aNil))) (eC (.str [112, 114, 111, 103, 114, 97, 109])))) (sRet (eC (.bl false))) sNil) (sCons (sIf (tOf (eOp gNe (eWord (eMake 41 2 m_Desk___init__ [] (aCons (eVar 2) aNil))) (eC (.str [112, 114, 111, 103, 114, 97, 109])))) (sRet (eC (.bl false))) sNil) (sCons (sIf (tOf (eOp gNe (eWord (eCall 1 m_written_single (aCons (eVar 2) aNil))) (eC (.str [115, 105, 110, 103, 108, 101])))) (sRet (eC (.bl false))) sNil) (sCons (sIf (tOf (eOp gNe (eWord (eCall 1 m_read (aCons (eVar 2) aNil))) (eC (.str [116, 101, 120, 116])))) (sRet (eC (.bl false))) sNil) (sIf (tOf (eOp gNe (eWord (eCall 1 m_read_single (aCons (eVar 2) aNil))) (eC (.str [116, 101, 120, 116])))) (sRet (eC (.bl false))) sNil)))))) (sCons (sIf (tOf (eOp gNe (eWord (eCall 1 m_written (aCons (eVar 1) aNil))) (eC (.str [112, 114, 111, 103, 114, 97, 109])))) (sRet (eC (.bl false))) sNil) (sCons (sIf (tOf (eOp gNe (eWord (eCall 1 m_written_single (aCons (eVar 0) aNil))) (eC (.str [115, 105, 110, 103, 108, 101])))) (sRet (eC (.bl false))) sNil) (sCons (sIf (tOf (eOp gNe (eWord (eCall 1 m_read (aCons (eCall 1 m_written_single (aCons (eVar 1) aNil)) aNil))) (eC (.str [116, 101, 120, 116])))) (sRet (eC (.bl false))) sNil) (sCons (sIf (tOf (eOp gNe (eWord (eCall 1 m_read_single (aCons (eCall 1 m_written (aCons (eVar 0) aNil)) aNil))) (eC (.str [116, 101, 120, 116])))) (sRet (eC (.bl false))) sNil) (sRet (eAnd (eOp (gOwnEq [26] m_Program___eq__) (eCall 1 m_read (aCons (eCall 1 m_written (aCons (eVar 0) aNil)) aNil)) (eVar 0)) (eOp (gOwnEq [38] m_Single___eq__) (eCall 1 m_read_single (aCons (eCall 1 m_written_single (aCons (eVar 1) aNil)) aNil)) (eVar 1)))))))))
def m__law_texts_right : Fn := mFn 3 b__law_texts_right
theorem sc__law_texts_right : FnScope [("_law_plain" : Str), ("_law_single" : Str), ("_law_thing" : Str)] [("_law_plain" : Str), ("_law_single" : Str)] (defScope st__law_texts_right) := ⟨rfl, rfl, rfl, by decide +kernel, rfl, by decide +kernel, by decide +kernel⟩
theorem ok__law_texts_right {P : Program} {w : World} {K : PySem.W.Frag} {mg : Str → Option Value} {base : Heap} {C : Cst} {xB xS xT D1 D2 D3 : Nat → Addr} {f c Pt : Addr} {fd : FuncData} (T : TX P w K mg base C xB xS xT D1 D2 D3 misS misE) (W : WordC P w K mg base C) (nProgram : ∀ c ∈ [26], NeC K (C.cls c)) (TB : LamX.TabB base mg c Pt) (hT : LamT C Pt (lamq "_law_texts_right")) (c_written : Cal P w K mg base C "written" 4 1 m_written) (k_Desk : MkT P w K mg base C "Desk" 41 4 2 m_Desk___init__ []) (c_written_single : Cal P w K mg base C "written_single" 4 1 m_written_single) (c_read : Cal P w K mg base C "read" 8 1 m_read) (c_read_single : Cal P w K mg base C "read_single" 13 1 m_read_single) (q_Program : OwnG P w K mg base C "__eq__" [26] 4 2 m_Program___eq__) (q_Single : OwnG P w K mg base C "__eq__" [38] 4 2 m_Single___eq__)  (Fd : FunC K "_law_texts_right" "_law_texts_right" st__law_texts_right f fd c) : FnOk P w K mg base (L2.CX P w) 16 f fd [("_law_plain" : Str), ("_law_single" : Str)] (spM C 2 m__law_texts_right) := by
  have nd := sc__law_texts_right.nd
  refine fn_okC Fd sc__law_texts_right fun A outer s H E hr => ?_
  exact (ss_cons (s_for (passes_of rfl) rfl (i_tup (e_tup (a_cons e_non (a_cons e_int (a_cons (e_str [109, 97, 110, 121, 32, 49] rfl) (a_cons (e_tup a_nil) (a_cons (e_lst a_nil) (a_cons (e_callTy (call_dictM rfl) (im_dict _) T.dict (by decide +kernel) (a_cons (e_lst a_nil) a_nil)) (a_cons e_bl a_nil))))))))) (g_name 2 nd) (ss_cons (s_if (t_cmp (op_neD (u64 hr)) (im_ne _) (e_word (k := 13) W TB rfl hT (hr.mono (by decide)) (LamX.lamS_by (by kernel_rfl)) (fun _ _ _ _ _ _ _ hr => (e_call c_written (hr.mono (by decide)) (pass_of rfl rfl rfl rfl) (a_cons (e_var 2) a_nil)))) (e_str [112, 114, 111, 103, 114, 97, 109] rfl)) (ss_one (s_ret e_bl)) ss_nil) (ss_cons (s_if (t_cmp (op_neD (u64 hr)) (im_ne _) (e_word (k := 13) W TB rfl hT (hr.mono (by decide)) (LamX.lamS_by (by kernel_rfl)) (fun _ _ _ _ _ _ _ hr => (e_make k_Desk (hr.mono (by decide)) (pass_of rfl rfl rfl rfl) (a_cons (e_var 2) a_nil)))) (e_str [112, 114, 111, 103, 114, 97, 109] rfl)) (ss_one (s_ret e_bl)) ss_nil) (ss_cons (s_if (t_cmp (op_neD (u64 hr)) (im_ne _) (e_word (k := 13) W TB rfl hT (hr.mono (by decide)) (LamX.lamS_by (by kernel_rfl)) (fun _ _ _ _ _ _ _ hr => (e_call c_written_single (hr.mono (by decide)) (pass_of rfl rfl rfl rfl) (a_cons (e_var 2) a_nil)))) (e_str [115, 105, 110, 103, 108, 101] rfl)) (ss_one (s_ret e_bl)) ss_nil) (ss_cons (s_if (t_cmp (op_neD (u64 hr)) (im_ne _) (e_word (k := 13) W TB rfl hT (hr.mono (by decide)) (LamX.lamS_by (by kernel_rfl)) (fun _ _ _ _ _ _ _ hr => (e_call c_read (hr.mono (by decide)) (pass_of rfl rfl rfl rfl) (a_cons (e_var 2) a_nil)))) (e_str [116, 101, 120, 116] rfl)) (ss_one (s_ret e_bl)) ss_nil) (ss_one (s_if (t_cmp (op_neD (u64 hr)) (im_ne _) (e_word (k := 13) W TB rfl hT (hr.mono (by decide)) (LamX.lamS_by (by kernel_rfl)) (fun _ _ _ _ _ _ _ hr => (e_call c_read_single (hr.mono (by decide)) (pass_of rfl rfl rfl rfl) (a_cons (e_var 2) a_nil)))) (e_str [116, 101, 120, 116] rfl)) (ss_one (s_ret e_bl)) ss_nil))))))) (ss_cons (s_if (t_cmp (op_neD (u64 hr)) (im_ne _) (e_word (k := 13) W TB rfl hT (hr.mono (by decide)) (LamX.lamS_by (by kernel_rfl)) (fun _ _ _ _ _ _ _ hr => (e_call c_written (hr.mono (by decide)) (pass_of rfl rfl rfl rfl) (a_cons (e_var 1) a_nil)))) (e_str [112, 114, 111, 103, 114, 97, 109] rfl)) (ss_one (s_ret e_bl)) ss_nil) (ss_cons (s_if (t_cmp (op_neD (u64 hr)) (im_ne _) (e_word (k := 13) W TB rfl hT (hr.mono (by decide)) (LamX.lamS_by (by kernel_rfl)) (fun _ _ _ _ _ _ _ hr => (e_call c_written_single (hr.mono (by decide)) (pass_of rfl rfl rfl rfl) (a_cons (e_var 0) a_nil)))) (e_str [115, 105, 110, 103, 108, 101] rfl)) (ss_one (s_ret e_bl)) ss_nil) (ss_cons (s_if (t_cmp (op_neD (u64 hr)) (im_ne _) (e_word (k := 13) W TB rfl hT (hr.mono (by decide)) (LamX.lamS_by (by kernel_rfl)) (fun _ _ _ _ _ _ _ hr => (e_call c_read (hr.mono (by decide)) (pass_of rfl rfl rfl rfl) (a_cons (e_call c_written_single (hr.mono (by decide)) (pass_of rfl rfl rfl rfl) (a_cons (e_var 1) a_nil)) a_nil)))) (e_str [116, 101, 120, 116] rfl)) (ss_one (s_ret e_bl)) ss_nil) (ss_cons (s_if (t_cmp (op_neD (u64 hr)) (im_ne _) (e_word (k := 13) W TB rfl hT (hr.mono (by decide)) (LamX.lamS_by (by kernel_rfl)) (fun _ _ _ _ _ _ _ hr => (e_call c_read_single (hr.mono (by decide)) (pass_of rfl rfl rfl rfl) (a_cons (e_call c_written (hr.mono (by decide)) (pass_of rfl rfl rfl rfl) (a_cons (e_var 0) a_nil)) a_nil)))) (e_str [116, 101, 120, 116] rfl)) (ss_one (s_ret e_bl)) ss_nil) (ss_one (s_ret (e_and (e_cmp (op_ownEq q_Program (hr.mono (by decide)) (pass_of rfl rfl rfl rfl)) (im_ownEq _) (e_call c_read (hr.mono (by decide)) (pass_of rfl rfl rfl rfl) (a_cons (e_call c_written (hr.mono (by decide)) (pass_of rfl rfl rfl rfl) (a_cons (e_var 0) a_nil)) a_nil)) (e_var 0)) (e_one (e_cmp (op_ownEq q_Single (hr.mono (by decide)) (pass_of rfl rfl rfl rfl)) (im_ownEq _) (e_call c_read_single (hr.mono (by decide)) (pass_of rfl rfl rfl rfl) (a_cons (e_call c_written_single (hr.mono (by decide)) (pass_of rfl rfl rfl rfl) (a_cons (e_var 1) a_nil)) a_nil)) (e_var 1)))))))))))
end MR
set_option maxHeartbeats 4000000
namespace MR
open PySem PySem.Spec PyProof.Rows L2
def exitM (t : LV) (h : LH) : Out LV := match b_Trial___exit__ [some t, none, none, none] h with
  | .ok (.rt (.bl false)) h1 => .ok .non h1
  | _ => .no
def attM (d : LV) (h : LH) : Out LV := (eMethN [41] 1 m_Desk_trial (eVar 0) aNil [some d, none, none] h).bind fun t h1 => match insL t h1 with
  | some (c, _) => match hasC c [42] with
    | true => (m_Trial___enter__ [t] h1).bind fun y h2 => match eMethN [41] 1 m_Desk_undo (eVar 0) aNil [some y] h2 with
      | .ex c e h3 => (exitM t h3).bind fun _ h4 => .ex c e h4
      | _ => .no
    | false => .no
  | none => .no
def eAtt (f : LS → LH → Out LV) : LS → LH → Out LV := fun l h => match f l h with
  | .ok x h1 => match insL x h1 with
    | some (c, _) => match hasC c [41] with
      | true => attM x h1
      | false => .no
    | none => .no
  | _ => .no
def ifTest : Stmt → Expr
  | .If c _ _ _ => c
  | _ => .Constant .none 0 ⟨0, 0, 0, 0⟩
def cmpL : Expr → Expr
  | .Compare a _ _ _ => a
  | e => e
def attE : Expr := cmpL (ifTest ((defBody (top 64)).getD 3 (.Pass ⟨0, 0, 0, 0⟩)))
abbrev st__law_full_right : Stmt := top 64
def b__law_full_right : LS → LH → Out LF := (sCons (sFor (iRange1 (aCons (eC (.int 10)) aNil)) (gN 1) (sDrop (eMethN [41] 4 m_Desk_put_row (eVar 0) (aCons (eC (.int 0)) (aCons (eC (.int 2)) (aCons (eNew .tup (aCons (eC (.str [116, 101, 108, 108])) (aCons (eC (.int 0)) aNil))) aNil)))))) (sCons (sIf (tOf (eOp gNe (eWord (eMethN [41] 4 m_Desk_put_row (eVar 0) (aCons (eC (.int 0)) (aCons (eC (.int 0)) (aCons (eNew .tup (aCons (eC (.str [116, 101, 108, 108])) (aCons (eC (.int 0)) aNil))) aNil))))) (eC (.str [98, 108, 111, 99, 107, 115])))) (sRet (eC (.bl false))) sNil) (sCons (sIf (tOf (eOp gNe (eB (gOwnLen [41] m_Desk___len__) (aCons (eVar 0) aNil)) (eC (.int 10)))) (sRet (eC (.bl false))) sNil) (sCons (sIf (tOf (eOp gNe (eWord (eAtt (eVar 0))) (eC (.str [110, 111, 116, 104, 105, 110, 103])))) (sRet (eC (.bl false))) sNil) (sCons (sIf (tOf (eOp gNe (eB (gOwnLen [41] m_Desk___len__) (aCons (eVar 0) aNil)) (eC (.int 10)))) (sRet (eC (.bl false))) sNil) (sCons (sAsg (eMethN [41] 1 m_Desk_branch (eVar 0) aNil) (gN 2)) (sRet (eAnd (eOp gEq (eMethN [41] 1 m_Desk_undo (eVar 2) aNil) (eNew .tup (aCons (eC (.str [112, 117, 116])) (aCons (eC (.int 0)) (aCons (eC (.int 2)) (aCons (eNew .tup (aCons (eC (.str [116, 101, 108, 108])) (aCons (eC (.int 0)) aNil))) aNil)))))) (eAnd (eOp gEq (eB (gOwnLen [41] m_Desk___len__) (aCons (eVar 0) aNil)) (eC (.int 10))) (eOp gEq (eB (gOwnLen [41] m_Desk___len__) (aCons (eVar 2) aNil)) (eC (.int 9))))))))))))
def m__law_full_right : Fn := mFn 3 b__law_full_right
theorem sc__law_full_right : FnScope [("_law_desk" : Str), ("_law_turn" : Str), ("_law_other" : Str)] [("_law_desk" : Str)] (defScope st__law_full_right) := ⟨rfl, rfl, rfl, by decide +kernel, rfl, by decide +kernel, by decide +kernel⟩
theorem ok__law_full_right {P : Program} {w : World} {K : PySem.W.Frag} {mg : Str → Option Value} {base : Heap} {C : Cst} {xB xS xT D1 D2 D3 : Nat → Addr} {f c Pt : Addr} {fd : FuncData} (T : TX P w K mg base C xB xS xT D1 D2 D3 misS misE) (W : WordC P w K mg base C) (nProgram : ∀ c ∈ [26], NeC K (C.cls c)) (TB : LamX.TabB base mg c Pt) (hT : LamT C Pt (lamq "_law_full_right")) (h_Desk_put_row : MethT P w K mg base C "put_row" [41] 10 4 m_Desk_put_row) (l_Desk : OwnG P w K mg base C "__len__" [41] 3 1 m_Desk___len__) (h_Desk_branch : MethT P w K mg base C "branch" [41] 6 1 m_Desk_branch) (h_Desk_undo : MethT P w K mg base C "undo" [41] 3 1 m_Desk_undo) (AT : ∀ (A : Around) (outer : List Env) (s : Shared) (H : Hp) (E : XK), Room 12 (A.deeper (envOfC "_law_full_right" (defScope st__law_full_right) s.heap.objs.size f (.ref c))) → TrE C E (cxOf (L2.CX P w) P w K mg base [("_law_desk" : Str), ("_law_turn" : Str), ("_law_other" : Str)] "_law_full_right" (defScope st__law_full_right) f (.ref c) A outer s H E) attE (eWord (eAtt (eVar 0)))) (Fd : FunC K "_law_full_right" "_law_full_right" st__law_full_right f fd c) : FnOk P w K mg base (L2.CX P w) 13 f fd [("_law_desk" : Str)] (spM C 1 m__law_full_right) := by
  have nd := sc__law_full_right.nd
  refine fn_okC Fd sc__law_full_right fun A outer s H E hr => ?_
  exact (ss_cons (s_for (passes_of rfl) rfl (i_range1 T.range (a_cons e_int a_nil)) (g_name 1 nd) (ss_one (s_expr (e_meth h_Desk_put_row (hr.mono (by decide)) (pass_of rfl rfl rfl rfl) (e_var 0) (a_cons e_int (a_cons e_int (a_cons (e_tup (a_cons (e_str [116, 101, 108, 108] rfl) (a_cons e_int a_nil))) a_nil))))))) (ss_cons (s_if (t_cmp (op_neD (u64 hr)) (im_ne _) (e_word (k := 10) W TB rfl hT (hr.mono (by decide)) (LamX.lamS_by (by kernel_rfl)) (fun _ _ _ _ _ _ _ hr => (e_meth h_Desk_put_row (hr.mono (by decide)) (pass_of rfl rfl rfl rfl) (e_var 0) (a_cons e_int (a_cons e_int (a_cons (e_tup (a_cons (e_str [116, 101, 108, 108] rfl) (a_cons e_int a_nil))) a_nil)))))) (e_str [98, 108, 111, 99, 107, 115] rfl)) (ss_one (s_ret e_bl)) ss_nil) (ss_cons (s_if (t_cmp (op_neD (u64 hr)) (im_ne _) (e_ownLen l_Desk (hr.mono (by decide)) (pass_of rfl rfl rfl rfl) T.len (a_cons (e_var 0) a_nil)) e_int) (ss_one (s_ret e_bl)) ss_nil) (ss_cons (s_if (t_cmp (op_neD (u64 hr)) (im_ne _) (AT A outer s H E hr) (e_str [110, 111, 116, 104, 105, 110, 103] rfl)) (ss_one (s_ret e_bl)) ss_nil) (ss_cons (s_if (t_cmp (op_neD (u64 hr)) (im_ne _) (e_ownLen l_Desk (hr.mono (by decide)) (pass_of rfl rfl rfl rfl) T.len (a_cons (e_var 0) a_nil)) e_int) (ss_one (s_ret e_bl)) ss_nil) (ss_cons (s_set 2 nd (e_meth0 h_Desk_branch (hr.mono (by decide)) (pass_of rfl rfl rfl rfl) (e_var 0))) (ss_one (s_ret (e_and (e_cmp (op_eqD (u64 hr)) (im_eq _) (e_meth0 h_Desk_undo (hr.mono (by decide)) (pass_of rfl rfl rfl rfl) (e_var 2)) (e_tup (a_cons (e_str [112, 117, 116] rfl) (a_cons e_int (a_cons e_int (a_cons (e_tup (a_cons (e_str [116, 101, 108, 108] rfl) (a_cons e_int a_nil))) a_nil)))))) (e_and (e_cmp (op_eqD (u64 hr)) (im_eq _) (e_ownLen l_Desk (hr.mono (by decide)) (pass_of rfl rfl rfl rfl) T.len (a_cons (e_var 0) a_nil)) e_int) (e_one (e_cmp (op_eqD (u64 hr)) (im_eq _) (e_ownLen l_Desk (hr.mono (by decide)) (pass_of rfl rfl rfl rfl) T.len (a_cons (e_var 2) a_nil)) e_int))))))))))))
abbrev st__law_desk_right : Stmt := top 63
def b__law_desk_right : LS → LH → Out LF := (sCons (sAsg (eMake 41 2 m_Desk___init__ [] (aCons (eVar 0) aNil)) (gN 1)) (sCons (sFor (iSeq tupL (eNew .tup (aCons (eC .non) (aCons (eUn gNeg (eC (.int 1))) (aCons (eC (.int 2)) (aCons (eC (.bl true)) (aCons (eC (.str [48])) (aCons (eNew .tup (aCons (eC (.int 0)) aNil)) aNil)))))))) (gN 2) (sCons (sIf (tOf (eOp gNe (eWord (eMethN [41] 4 m_Desk_put_row (eVar 1) (aCons (eVar 2) (aCons (eC .non) (aCons (eC .non) aNil))))) (eC (.str [98, 108, 111, 99, 107])))) (sRet (eC (.bl false))) sNil) (sCons (sIf (tOf (eOp gNe (eWord (eMethN [41] 3 m_Desk_turn_end (eVar 1) (aCons (eVar 2) (aCons (eC .non) aNil)))) (eC (.str [98, 108, 111, 99, 107])))) (sRet (eC (.bl false))) sNil) (sIf (tOf (eOp gNe (eWord (eMethN [41] 3 m_Desk_take_row (eVar 1) (aCons (eVar 2) (aCons (eC .non) aNil)))) (eC (.str [98, 108, 111, 99, 107])))) (sRet (eC (.bl false))) sNil)))) (sCons (sFor (iSeq tupL (eNew .tup (aCons (eC .non) (aCons (eUn gNeg (eC (.int 1))) (aCons (eC (.int 3)) (aCons (eC (.bl true)) (aCons (eC (.str [48])) aNil))))))) (gN 3) (sCons (sIf (tOf (eOp gNe (eWord (eMethN [41] 4 m_Desk_put_row (eVar 1) (aCons (eC (.int 0)) (aCons (eVar 3) (aCons (eC .non) aNil))))) (eC (.str [101, 100, 105, 116])))) (sRet (eC (.bl false))) sNil) (sIf (tOf (eOp gNe (eWord (eMethN [41] 3 m_Desk_take_row (eVar 1) (aCons (eC (.int 0)) (aCons (eVar 3) aNil)))) (eC (.str [101, 100, 105, 116])))) (sRet (eC (.bl false))) sNil))) (sCons (sIf (tOf (eOp gNe (eWord (eMethN [41] 3 m_Desk_take_row (eVar 1) (aCons (eC (.int 0)) (aCons (eC (.int 2)) aNil)))) (eC (.str [101, 100, 105, 116])))) (sRet (eC (.bl false))) sNil) (sCons (sIf (tOf (eOp gNe (eWord (eMethN [41] 3 m_Desk_take_row (eVar 1) (aCons (eC (.int 1)) (aCons (eC (.int 0)) aNil)))) (eC (.str [101, 100, 105, 116])))) (sRet (eC (.bl false))) sNil) (sCons (sFor (iSeq tupL (eNew .tup (aCons (eC .non) (aCons (eNew .tup (aCons (eC (.str [116, 101, 108, 108])) (aCons (eC (.int 2)) aNil))) (aCons (eNew .tup (aCons (eC (.str [115, 116, 111, 112])) aNil)) (aCons (eNew .lst (aCons (eC (.str [116, 101, 108, 108])) (aCons (eC (.int 0)) aNil))) (aCons (eNew .tup (aCons (eC (.str [112, 117, 116])) (aCons (eC (.int 0)) (aCons (eC (.int 4)) aNil)))) (aCons (eNew .tup aNil) aNil)))))))) (gN 4) (sIf (tOf (eOp gNe (eWord (eMethN [41] 4 m_Desk_put_row (eVar 1) (aCons (eC (.int 1)) (aCons (eC (.int 0)) (aCons (eVar 4) aNil))))) (eC (.str [98, 108, 111, 99, 107, 115])))) (sRet (eC (.bl false))) sNil)) (sCons (sFor (iSeq tupL (eNew .tup (aCons (eC .non) (aCons (eNew .tup (aCons (eC (.str [115, 116, 111, 112])) aNil)) (aCons (eNew .tup (aCons (eC (.str [103, 111])) (aCons (eC (.int 0)) aNil))) (aCons (eNew .tup (aCons (eC (.str [103, 111])) (aCons (eC (.int 2)) aNil))) (aCons (eNew .tup (aCons (eC (.str [112, 97, 114, 116])) (aCons (eC (.int 2)) (aCons (eC (.int 1)) (aCons (eC (.int 1)) aNil))))) (aCons (eNew .lst (aCons (eC (.str [103, 111])) (aCons (eC (.int 1)) aNil))) aNil)))))))) (gN 5) (sIf (tOf (eOp gNe (eWord (eMethN [41] 3 m_Desk_turn_end (eVar 1) (aCons (eC (.int 0)) (aCons (eVar 5) aNil)))) (eC (.str [98, 108, 111, 99, 107, 115])))) (sRet (eC (.bl false))) sNil)) (sCons (sIf (tOf (eOp (gOwnNe [26] m_Program___eq__) (eProp [41] m_now (eVar 1)) (eVar 0))) (sRet (eC (.bl false))) sNil) (sCons (sIf (tOf (eOp gNe (eProp [41] m_journal (eVar 1)) (eNew .lst aNil))) (sRet (eC (.bl false))) sNil) (sCons (sIf (tOf (eOp gNe (eWord (eMethN [41] 1 m_Desk_undo (eVar 1) aNil)) (eC (.str [110, 111, 116, 104, 105, 110, 103])))) (sRet (eC (.bl false))) sNil) (sRet (eCall 1 m__law_full_right (aCons (eVar 1) aNil)))))))))))))
def m__law_desk_right : Fn := mFn 6 b__law_desk_right
theorem sc__law_desk_right : FnScope [("_law_plain" : Str), ("_law_desk" : Str), ("_law_block" : Str), ("_law_at" : Str), ("_law_row" : Str), ("_law_end" : Str)] [("_law_plain" : Str)] (defScope st__law_desk_right) := ⟨rfl, rfl, rfl, by decide +kernel, rfl, by decide +kernel, by decide +kernel⟩
theorem ok__law_desk_right {P : Program} {w : World} {K : PySem.W.Frag} {mg : Str → Option Value} {base : Heap} {C : Cst} {xB xS xT D1 D2 D3 : Nat → Addr} {f c Pt : Addr} {fd : FuncData} (T : TX P w K mg base C xB xS xT D1 D2 D3 misS misE) (W : WordC P w K mg base C) (nProgram : ∀ c ∈ [26], NeC K (C.cls c)) (TB : LamX.TabB base mg c Pt) (hT : LamT C Pt (lamq "_law_desk_right")) (k_Desk : MkT P w K mg base C "Desk" 41 4 2 m_Desk___init__ []) (h_Desk_put_row : MethT P w K mg base C "put_row" [41] 10 4 m_Desk_put_row) (h_Desk_turn_end : MethT P w K mg base C "turn_end" [41] 10 3 m_Desk_turn_end) (h_Desk_take_row : MethT P w K mg base C "take_row" [41] 10 3 m_Desk_take_row) (p_now : PropT P w K mg base C "now" [41] 3 m_now) (q_Program : OwnG P w K mg base C "__eq__" [26] 4 2 m_Program___eq__) (p_journal : PropT P w K mg base C "journal" [41] 3 m_journal) (h_Desk_undo : MethT P w K mg base C "undo" [41] 3 1 m_Desk_undo) (c__law_full_right : Cal P w K mg base C "_law_full_right" 13 1 m__law_full_right)  (Fd : FunC K "_law_desk_right" "_law_desk_right" st__law_desk_right f fd c) : FnOk P w K mg base (L2.CX P w) 16 f fd [("_law_plain" : Str)] (spM C 1 m__law_desk_right) := by
  have nd := sc__law_desk_right.nd
  refine fn_okC Fd sc__law_desk_right fun A outer s H E hr => ?_
  exact (ss_cons (s_set 1 nd (e_make k_Desk (hr.mono (by decide)) (pass_of rfl rfl rfl rfl) (a_cons (e_var 0) a_nil))) (ss_cons (s_for (passes_of rfl) rfl (i_tup (e_tup (a_cons e_non (a_cons (e_neg e_int) (a_cons e_int (a_cons e_bl (a_cons (e_str [48] rfl) (a_cons (e_tup (a_cons e_int a_nil)) a_nil)))))))) (g_name 2 nd) (ss_cons (s_if (t_cmp (op_neD (u64 hr)) (im_ne _) (e_word (k := 13) W TB rfl hT (hr.mono (by decide)) (LamX.lamS_by (by kernel_rfl)) (fun _ _ _ _ _ _ _ hr => (e_meth h_Desk_put_row (hr.mono (by decide)) (pass_of rfl rfl rfl rfl) (e_var 1) (a_cons (e_var 2) (a_cons e_non (a_cons e_non a_nil)))))) (e_str [98, 108, 111, 99, 107] rfl)) (ss_one (s_ret e_bl)) ss_nil) (ss_cons (s_if (t_cmp (op_neD (u64 hr)) (im_ne _) (e_word (k := 13) W TB rfl hT (hr.mono (by decide)) (LamX.lamS_by (by kernel_rfl)) (fun _ _ _ _ _ _ _ hr => (e_meth h_Desk_turn_end (hr.mono (by decide)) (pass_of rfl rfl rfl rfl) (e_var 1) (a_cons (e_var 2) (a_cons e_non a_nil))))) (e_str [98, 108, 111, 99, 107] rfl)) (ss_one (s_ret e_bl)) ss_nil) (ss_one (s_if (t_cmp (op_neD (u64 hr)) (im_ne _) (e_word (k := 13) W TB rfl hT (hr.mono (by decide)) (LamX.lamS_by (by kernel_rfl)) (fun _ _ _ _ _ _ _ hr => (e_meth h_Desk_take_row (hr.mono (by decide)) (pass_of rfl rfl rfl rfl) (e_var 1) (a_cons (e_var 2) (a_cons e_non a_nil))))) (e_str [98, 108, 111, 99, 107] rfl)) (ss_one (s_ret e_bl)) ss_nil))))) (ss_cons (s_for (passes_of rfl) rfl (i_tup (e_tup (a_cons e_non (a_cons (e_neg e_int) (a_cons e_int (a_cons e_bl (a_cons (e_str [48] rfl) a_nil))))))) (g_name 3 nd) (ss_cons (s_if (t_cmp (op_neD (u64 hr)) (im_ne _) (e_word (k := 13) W TB rfl hT (hr.mono (by decide)) (LamX.lamS_by (by kernel_rfl)) (fun _ _ _ _ _ _ _ hr => (e_meth h_Desk_put_row (hr.mono (by decide)) (pass_of rfl rfl rfl rfl) (e_var 1) (a_cons e_int (a_cons (e_var 3) (a_cons e_non a_nil)))))) (e_str [101, 100, 105, 116] rfl)) (ss_one (s_ret e_bl)) ss_nil) (ss_one (s_if (t_cmp (op_neD (u64 hr)) (im_ne _) (e_word (k := 13) W TB rfl hT (hr.mono (by decide)) (LamX.lamS_by (by kernel_rfl)) (fun _ _ _ _ _ _ _ hr => (e_meth h_Desk_take_row (hr.mono (by decide)) (pass_of rfl rfl rfl rfl) (e_var 1) (a_cons e_int (a_cons (e_var 3) a_nil))))) (e_str [101, 100, 105, 116] rfl)) (ss_one (s_ret e_bl)) ss_nil)))) (ss_cons (s_if (t_cmp (op_neD (u64 hr)) (im_ne _) (e_word (k := 13) W TB rfl hT (hr.mono (by decide)) (LamX.lamS_by (by kernel_rfl)) (fun _ _ _ _ _ _ _ hr => (e_meth h_Desk_take_row (hr.mono (by decide)) (pass_of rfl rfl rfl rfl) (e_var 1) (a_cons e_int (a_cons e_int a_nil))))) (e_str [101, 100, 105, 116] rfl)) (ss_one (s_ret e_bl)) ss_nil) (ss_cons (s_if (t_cmp (op_neD (u64 hr)) (im_ne _) (e_word (k := 13) W TB rfl hT (hr.mono (by decide)) (LamX.lamS_by (by kernel_rfl)) (fun _ _ _ _ _ _ _ hr => (e_meth h_Desk_take_row (hr.mono (by decide)) (pass_of rfl rfl rfl rfl) (e_var 1) (a_cons e_int (a_cons e_int a_nil))))) (e_str [101, 100, 105, 116] rfl)) (ss_one (s_ret e_bl)) ss_nil) (ss_cons (s_for (passes_of rfl) rfl (i_tup (e_tup (a_cons e_non (a_cons (e_tup (a_cons (e_str [116, 101, 108, 108] rfl) (a_cons e_int a_nil))) (a_cons (e_tup (a_cons (e_str [115, 116, 111, 112] rfl) a_nil)) (a_cons (e_lst (a_cons (e_str [116, 101, 108, 108] rfl) (a_cons e_int a_nil))) (a_cons (e_tup (a_cons (e_str [112, 117, 116] rfl) (a_cons e_int (a_cons e_int a_nil)))) (a_cons (e_tup a_nil) a_nil)))))))) (g_name 4 nd) (ss_one (s_if (t_cmp (op_neD (u64 hr)) (im_ne _) (e_word (k := 13) W TB rfl hT (hr.mono (by decide)) (LamX.lamS_by (by kernel_rfl)) (fun _ _ _ _ _ _ _ hr => (e_meth h_Desk_put_row (hr.mono (by decide)) (pass_of rfl rfl rfl rfl) (e_var 1) (a_cons e_int (a_cons e_int (a_cons (e_var 4) a_nil)))))) (e_str [98, 108, 111, 99, 107, 115] rfl)) (ss_one (s_ret e_bl)) ss_nil))) (ss_cons (s_for (passes_of rfl) rfl (i_tup (e_tup (a_cons e_non (a_cons (e_tup (a_cons (e_str [115, 116, 111, 112] rfl) a_nil)) (a_cons (e_tup (a_cons (e_str [103, 111] rfl) (a_cons e_int a_nil))) (a_cons (e_tup (a_cons (e_str [103, 111] rfl) (a_cons e_int a_nil))) (a_cons (e_tup (a_cons (e_str [112, 97, 114, 116] rfl) (a_cons e_int (a_cons e_int (a_cons e_int a_nil))))) (a_cons (e_lst (a_cons (e_str [103, 111] rfl) (a_cons e_int a_nil))) a_nil)))))))) (g_name 5 nd) (ss_one (s_if (t_cmp (op_neD (u64 hr)) (im_ne _) (e_word (k := 13) W TB rfl hT (hr.mono (by decide)) (LamX.lamS_by (by kernel_rfl)) (fun _ _ _ _ _ _ _ hr => (e_meth h_Desk_turn_end (hr.mono (by decide)) (pass_of rfl rfl rfl rfl) (e_var 1) (a_cons e_int (a_cons (e_var 5) a_nil))))) (e_str [98, 108, 111, 99, 107, 115] rfl)) (ss_one (s_ret e_bl)) ss_nil))) (ss_cons (s_if (t_ownNe q_Program nProgram (hr.mono (by decide)) (pass_of rfl rfl rfl rfl) (e_prop p_now (hr.mono (by decide)) (e_var 1)) (e_var 0)) (ss_one (s_ret e_bl)) ss_nil) (ss_cons (s_if (t_cmp (op_neD (u64 hr)) (im_ne _) (e_prop p_journal (hr.mono (by decide)) (e_var 1)) (e_lst a_nil)) (ss_one (s_ret e_bl)) ss_nil) (ss_cons (s_if (t_cmp (op_neD (u64 hr)) (im_ne _) (e_word (k := 13) W TB rfl hT (hr.mono (by decide)) (LamX.lamS_by (by kernel_rfl)) (fun _ _ _ _ _ _ _ hr => (e_meth0 h_Desk_undo (hr.mono (by decide)) (pass_of rfl rfl rfl rfl) (e_var 1)))) (e_str [110, 111, 116, 104, 105, 110, 103] rfl)) (ss_one (s_ret e_bl)) ss_nil) (ss_one (s_ret (e_call c__law_full_right (hr.mono (by decide)) (pass_of rfl rfl rfl rfl) (a_cons (e_var 1) a_nil))))))))))))))
abbrev st_law : Stmt := top 65
def b_law : LS → LH → Out LF := (sCons (sAsg (eCall 0 m__law_pair aNil) (gT 2 (gsCons (gN 1) (gsCons (gN 2) gsNil)))) (sRet (eAnd (eCall 2 m__law_texts_right (aCons (eVar 1) (aCons (eVar 2) aNil))) (eAnd (eCall 1 m__law_desk_right (aCons (eVar 1) aNil)) (eUn (gIsTy .list) (eVar 0))))))
def m_law : Fn := mFn 3 b_law
theorem sc_law : FnScope [("_law_script" : Str), ("_law_plain" : Str), ("_law_single" : Str)] [("_law_script" : Str)] (defScope st_law) := ⟨rfl, rfl, rfl, by decide +kernel, rfl, by decide +kernel, by decide +kernel⟩
theorem ok_law {P : Program} {w : World} {K : PySem.W.Frag} {mg : Str → Option Value} {base : Heap} {C : Cst} {xB xS xT D1 D2 D3 : Nat → Addr} {f : Addr} {fd : FuncData} (T : TX P w K mg base C xB xS xT D1 D2 D3 misS misE) (c__law_pair : Cal P w K mg base C "_law_pair" 13 0 m__law_pair) (c__law_texts_right : Cal P w K mg base C "_law_texts_right" 16 2 m__law_texts_right) (c__law_desk_right : Cal P w K mg base C "_law_desk_right" 16 1 m__law_desk_right) (Fd : Fun K "law" "law" st_law f fd) : FnOk P w K mg base (L2.CX P w) 17 f fd [("_law_script" : Str)] (spM C 1 m_law) := by
  have nd := sc_law.nd
  refine fn_ok Fd sc_law fun cdv A outer s H E hr => ?_
  exact (ss_cons (s_asg (e_call0 c__law_pair (hr.mono (by decide)) (pass_of rfl rfl rfl rfl)) (g_tup rfl (gs_cons (g_name 1 nd) (gs_cons (g_name 2 nd) gs_nil)))) (ss_one (s_ret (e_and (e_call c__law_texts_right (hr.mono (by decide)) (pass_of rfl rfl rfl rfl) (a_cons (e_var 1) (a_cons (e_var 2) a_nil))) (e_and (e_call c__law_desk_right (hr.mono (by decide)) (pass_of rfl rfl rfl rfl) (a_cons (e_var 1) a_nil)) (e_one (e_isTy .list T.isi T.list (e_var 0) (by decide +kernel))))))))
end MR
set_option maxHeartbeats 4000000
/-! Mirror 40: the law's mirror, run. -/
namespace MR
open PySem PySem.Spec PyProof.Rows L2
def isTrueO (x : Out LV) : Bool := match x with
  | .ok (.bl true) _ => true
  | _ => false
def lawH : LH := ⟨1, Tr.nil.put 20 0 (.scr)⟩
theorem law_runs : isTrueO (m_law [.ref 0] lawH) = true := by decide +kernel
end MR
set_option maxHeartbeats 4000000
/-! Mirror 42: a Hook of one's own: functions by addresses, one Bool, tables with text keys, empty code tables left out. -/
namespace MR
open PySem PySem.Spec PyProof.Rows L2 He
end MR
set_option maxHeartbeats 4000000
/-! Mirror 43: from the Hook's word to the defs. -/
namespace MR
open PySem PySem.Spec PyProof.Rows L2 He
section
variable {K : PySem.W.Frag} {d : FnA}
/-- what the Hook says of one def -/
structure FnZ (K : PySem.W.Frag) (d : FnA) : Prop where
  v : fwOf K (d.at_ K) = d.val
  r : fnRest K d = true
theorem fnZ_of {fn : List FnA} {ts : List Tab} {tf : List (PySem.W.Frag → Addr × Addr)} {ex : PySem.W.Frag → Bool} {w : World} {h : Heap} (S : SaysZ fn ts tf ex w h K) (i : Nat) (hi : fn[i]? = some d := by rfl) : FnZ K d := by
  refine ⟨?_, List.all_eq_true.mp S.f1 d (List.mem_of_getElem? hi)⟩
  have e := congrArg (fun l : List FW => l[i]?) S.f2
  simp only [List.getElem?_map, hi, Option.map_some] at e
  exact Option.some.inj e
theorem FnZ.keep (z : FnZ K d) : PySem.W.keepIn K (.ref (d.at_ K)) = true := (ba z.r).1
theorem FnZ.fnIn (z : FnZ K d) : PySem.W.fnIn K (d.at_ K) = true := (ba (ba z.r).2).1
theorem FnZ.isFn (z : FnZ K d) : PySem.W.isFn K (.ref (d.at_ K)) = true := (ba (ba (ba z.r).2).2).1
/-- the object -/
theorem FnZ.obj (z : FnZ K d) : ∃ (oc : Value) (od : Option Addr) (fd : FuncData) (osl : Array (Option Value)) (c : Addr), K.lookup (d.at_ K) = some ⟨oc, od, .func fd, osl⟩ ∧ fd.name = d.name ∧ fd.qualname = d.qual ∧ fd.params = defArgs d.st ∧ fd.body = .stmts (defBody d.st) ∧ fd.scope = defScope d.st ∧ fd.closure.map (·.1) = d.cl ∧
    PySem.W.codeIn K fd.code d.qual = true ∧ fd.code = .ref c ∧ fd.globals = mainGlobals ∧ fd.builtins = builtinsNs ∧ fd.defaults = .none := by
  have v := z.v
  have r := (ba (ba (ba z.r).2).2).2
  unfold fwOf at v
  cases e : K.lookup (d.at_ K) with
  | none => rw [e] at v; cases v
  | some o =>
    obtain ⟨oc, od, dt, osl⟩ := o
    rw [e] at v r
    cases dt with
    | func fd =>
      have v : some (fd.name, fd.qualname, fd.params, fd.body, fd.scope, fd.closure.map (·.1)) = d.val := v
      unfold FnA.val at v
      injection v with v
      injection v with v1 v
      injection v with v2 v
      injection v with v3 v
      injection v with v4 v
      injection v with v5 v6
      obtain ⟨r1, r⟩ := ba (show (PySem.W.codeIn K fd.code d.qual && (decide (fd.globals = mainGlobals) && (decide (fd.builtins = builtinsNs) && decide (fd.defaults = .none)))) = true from r)
      obtain ⟨r2, r⟩ := ba r
      obtain ⟨r3, r4⟩ := ba r
      obtain ⟨c, hc⟩ := codeIn_ref r1
      exact ⟨oc, od, fd, osl, c, rfl, v1, v2, v3, v4, v5, v6, r1, hc, of_decide_eq_true r2, of_decide_eq_true r3, of_decide_eq_true r4⟩
    | _ => cases v
theorem FnZ.funC (z : FnZ K d) (hcl : d.cl = []) : ∃ fd, FunC K d.name d.qual d.st (d.at_ K) fd (cdAt K (d.at_ K)) := by
  obtain ⟨oc, od, fd, osl, c, lk, e1, e2, e3, e4, e5, e6, e7, e8, e9, e10, e11⟩ := z.obj
  have ec : cdAt K (d.at_ K) = c := by unfold cdAt; rw [lk]; dsimp only; rw [e8]
  have e6' : fd.closure = [] := by rw [hcl] at e6; exact List.map_eq_nil_iff.mp e6
  refine ⟨fd, oc, od, fd.kwdefaults, fd.doc, fd.pyModule, fd.annotations, fd.closureTuple, osl, ?_, lk, by rw [ec, ← e8]; exact e7⟩
  rw [ec]
  obtain ⟨a1, a2, a3, a4, a5, a6, a7, a8, a9, a10, a11, a12, a13, a14, a15⟩ := fd
  cases e1; cases e2; cases e3; cases e4; cases e5; cases e6'; cases e8; cases e9; cases e10; cases e11
  rfl
theorem FnZ.fun_ (z : FnZ K d) (hcl : d.cl = []) : ∃ fd, Fun K d.name d.qual d.st (d.at_ K) fd := by
  obtain ⟨fd, oc, od, kV, doc, pm, an, ct, osl, e1, e2, e3⟩ := z.funC hcl
  exact ⟨fd, ⟨oc, od, kV, doc, pm, an, _, ct, osl, e1, e2, e3⟩, z.keep⟩
theorem cellB_ok {c D : Addr} (h : cellB K c D = true) : ∃ oc dx sl, K.lookup c = some ⟨oc, dx, .cell (some (.ref D)), sl⟩ := by
  unfold cellB at h
  split at h
  · rename_i e
    have := of_decide_eq_true h
    subst this
    exact ⟨_, _, _, e⟩
  · cases h
theorem FnZ.funS (z : FnZ K d) {kws : List (Str × V)} {D : Addr} (hcl : d.cl = [cw]) (hc : cellB K (ccAt K (d.at_ K)) D = true) (hk : kwdB K (kwAt K (d.at_ K)) kws = true) : ∃ fd, FunS K d.name d.qual d.st kws (d.at_ K) (ccAt K (d.at_ K)) (cdAt K (d.at_ K)) D fd := by
  obtain ⟨oc, od, fd, osl, c, lk, e1, e2, e3, e4, e5, e6, e7, e8, e9, e10, e11⟩ := z.obj
  have ec : cdAt K (d.at_ K) = c := by unfold cdAt; rw [lk]; dsimp only; rw [e8]
  have ek : kwAt K (d.at_ K) = fd.kwdefaults := by unfold kwAt; rw [lk]
  have ecl : fd.closure = [(cw, ccAt K (d.at_ K))] := by
    unfold ccAt
    rw [lk]
    dsimp only
    rw [hcl] at e6
    cases q : fd.closure with
    | nil => rw [q] at e6; cases e6
    | cons p r =>
      rw [q] at e6
      injection e6 with e6 e7
      have := List.map_eq_nil_iff.mp e7
      subst this
      obtain ⟨p1, p2⟩ := p
      cases e6
      rfl
  refine ⟨fd, ⟨oc, od, fd.kwdefaults, fd.doc, fd.pyModule, fd.annotations, fd.closureTuple, osl, ?_, lk, by rw [ec, ← e8]; exact e7, by rw [← ek]; exact kwdB_ok hk⟩, cellB_ok hc⟩
  rw [ec]
  generalize ccAt K (d.at_ K) = cc at ecl
  obtain ⟨a1, a2, a3, a4, a5, a6, a7, a8, a9, a10, a11, a12, a13, a14, a15⟩ := fd
  cases e1; cases e2; cases e3; cases e4; cases e5; cases ecl; cases e8; cases e9; cases e10; cases e11
  rfl
end
end MR
set_option maxHeartbeats 4000000
namespace MR
open PySem PySem.Spec PyProof.Rows L2 He
end MR
set_option maxHeartbeats 4000000
/-! Mirror 45: the other facts as Bools. -/
namespace MR
open PySem PySem.Spec PyProof.Rows L2 He
/-- the written part's constants -/
def cstOf (K : PySem.W.Frag) : Cst := ⟨kc K, kc K, [((lawT K "_law_texts_right").2, lamq "_law_texts_right"), ((lawT K "_law_desk_right").2, lamq "_law_desk_right")], [], ((lawT K "_law_full_right").2, lamq "_law_full_right")⟩
section
variable {K : PySem.W.Frag} {C D : Addr} {f : Str}
theorem sclsB_ok (h : sclsB K C = true) : SlX.SCls K C := by
  obtain ⟨h1, h⟩ := ba h
  obtain ⟨h2, h⟩ := ba h
  obtain ⟨h3, h4⟩ := ba h
  exact ⟨h1, h2, h3, eqO_ok h4⟩
theorem slotB_ok {i : Nat} (h : slotB K C f i = true) : ∃ p, SlX.Slot1 K C f p i := by
  unfold slotB at h
  split at h
  · rename_i p e
    obtain ⟨h1, h⟩ := ba h
    obtain ⟨h2, h⟩ := ba h
    obtain ⟨h3, h⟩ := ba h
    obtain ⟨h4, h5⟩ := ba h
    exact ⟨p, e, eqO_ok h1, of_decide_eq_true h2, of_decide_eq_true h3, of_decide_eq_true h4, of_decide_eq_true h5⟩
  · cases h
theorem slotsB_ok {ix : Nat → Option Nat} (hix : ∀ c j, ix c = some j → c ∈ [24, 26, 38, 41, 42]) (h : slotsB K f ix = true) : SlotIx (cstOf K) K f ix := fun c j e => by
  have z := List.all_eq_true.mp h c (hix c j e)
  rw [e] at z
  obtain ⟨h1, h2⟩ := ba z
  exact ⟨sclsB_ok h1, slotB_ok h2⟩
theorem sisiB_ok (h : sisiB K C = true) : SlX.SIsi K C := by
  obtain ⟨h1, h⟩ := ba h
  obtain ⟨h2, h⟩ := ba h
  obtain ⟨h3, h4⟩ := ba h
  exact ⟨eqO_ok h1, eqO_ok h2, of_decide_eq_true h3, of_decide_eq_true h4⟩
theorem icOf_mem {d c : Nat} {b : Bool} (h : icOf d c = some b) : c ∈ [24, 26, 38, 41, 42] ∧ b = Nat.beq d c := by
  unfold icOf at h
  split at h <;> first | (cases h; exact ⟨by simp, rfl⟩) | cases h
theorem isCB_ok {d : Nat} (h : isCB K d = true) : IsC K (cstOf K) (kc K d) (icOf d) := by
  obtain ⟨h1, h2⟩ := ba h
  refine ⟨fun c b e => ?_, fun t ht => of_decide_eq_true (List.all_eq_true.mp h2 t ht)⟩
  obtain ⟨m, rfl⟩ := icOf_mem e
  obtain ⟨k1, k⟩ := ba (List.all_eq_true.mp h1 c m)
  obtain ⟨k2, k3⟩ := ba k
  exact ⟨sclsB_ok k1, sisiB_ok k2, of_decide_eq_true k3⟩
end
end MR
set_option maxHeartbeats 4000000
/-! Mirror 46: more facts as Bools: methods, makers, properties, super, exceptions. -/
namespace MR
open PySem PySem.Spec PyProof.Rows L2 He
section
variable {K : PySem.W.Frag} {C D : Addr} {f : Str}
theorem methB_ok {m : Str} {a : Addr} (h : methB K C m a = true) : Meth K C m a := by
  obtain ⟨h1, h⟩ := ba h
  obtain ⟨h2, h3⟩ := ba h
  exact ⟨eqO_ok h1, h2, h3⟩
theorem mkB_ok {a : Addr} (h : mkB K C a = true) : Mk K C a := by
  obtain ⟨h1, h⟩ := ba h
  obtain ⟨h2, h⟩ := ba h
  obtain ⟨h3, h4⟩ := ba h
  exact ⟨h1, eqO_ok h2, h3, h4⟩
theorem propB_ok {m : Str} {a : Addr} (h : propB K C m a = true) : ∃ p, PySem.W.findIn K (.ref C) m = some (some (.ref p)) ∧ PySem.W.specialIn K (.ref p) "__get__" = some (some (.builtin "property.__get__")) ∧ PySem.W.takesIn K (.ref p) = some true ∧ ∃ rest, PySem.W.recIn K p "property" = some (.ref a :: rest) := by
  unfold propB at h
  split at h
  · rename_i p e
    obtain ⟨h1, h⟩ := ba h
    obtain ⟨h2, h3⟩ := ba h
    refine ⟨p, e, eqO_ok h1, of_decide_eq_true h2, ?_⟩
    split at h3
    · rename_i b rest e2
      have := of_decide_eq_true h3
      subst this
      exact ⟨rest, e2⟩
    · cases h3
  · cases h
theorem neB_ok (h : neB K C = true) : NeC K C := by
  obtain ⟨h1, h2⟩ := ba h
  exact ⟨eqO_ok h1, of_decide_eq_true h2⟩
theorem supCB_ok {m : Str} {g : Addr} (h : supCB K C D m g = true) : SupC K C D m g := by
  obtain ⟨h1, h⟩ := ba h
  obtain ⟨h2, h⟩ := ba h
  obtain ⟨h3, h⟩ := ba h
  obtain ⟨h4, h5⟩ := ba h
  exact ⟨of_decide_eq_true h1, eqO_ok h2, eqO_ok h3, of_decide_eq_true h4, h5⟩
theorem supEB_ok (h : supEB K C D = true) : SupE K C D := by
  obtain ⟨h1, h⟩ := ba h
  obtain ⟨h2, h⟩ := ba h
  obtain ⟨h3, h4⟩ := ba h
  exact ⟨of_decide_eq_true h1, eqO_ok h2, eqO_ok h3, of_decide_eq_true h4⟩
theorem excCB_ok (h : excCB K D = true) : ExcC K D := by
  obtain ⟨h1, h⟩ := ba h
  obtain ⟨h2, h⟩ := ba h
  obtain ⟨h3, h⟩ := ba h
  obtain ⟨h4, h⟩ := ba h
  obtain ⟨h5, h⟩ := ba h
  obtain ⟨h6, h⟩ := ba h
  obtain ⟨h7, h8⟩ := ba h
  exact ⟨eqO_ok h1, eqO_ok h2, of_decide_eq_true h3, h4, eqO_ok h5, eqO_ok h6, of_decide_eq_true h7, of_decide_eq_true h8⟩
end
end MR
set_option maxHeartbeats 4000000
/-! Mirror 47: facts of _law_word's clauses, of the module's constants and dicts. -/
namespace MR
open PySem PySem.Spec PyProof.Rows L2 He
section
variable {K : PySem.W.Frag} {C D : Addr} {f : Str}
theorem wordTB_ok (h : wordTB K = true) : WordT K (cstOf K) := by
  obtain ⟨h1, h⟩ := ba h
  obtain ⟨h2, h⟩ := ba h
  obtain ⟨h3, h⟩ := ba h
  obtain ⟨h4, h⟩ := ba h
  obtain ⟨h5, h⟩ := ba h
  obtain ⟨h6, h7⟩ := ba h
  exact ⟨fun c m => of_decide_eq_true (List.all_eq_true.mp h1 c m), fun c m => of_decide_eq_true (List.all_eq_true.mp h2 c m), fun c m => of_decide_eq_true (List.all_eq_true.mp h3 c m),
    fun c m => let z := ba (List.all_eq_true.mp h4 c m); ⟨xfB_ok z.1, eqO_ok z.2⟩, fun c m => excCB_ok (List.all_eq_true.mp h5 c m),
    fun c m j n => of_decide_eq_true (List.all_eq_true.mp (List.all_eq_true.mp h6 c m) j n), fun c m => of_decide_eq_true (List.all_eq_true.mp h7 c m)⟩
end
end MR
set_option maxHeartbeats 4000000
/-! Mirror 48: exception classes with an __init__. -/
namespace MR
open PySem PySem.Spec PyProof.Rows L2 He
section
variable {K : PySem.W.Frag} {C D : Addr} {f : Str}
theorem oexObjB_ok (q : oexObjB K C = true) : ∃ nm qn N bs bm sn sub ab col dd k0 k1 k2 k3 k5, K.lookup C = some (excClassObj nm qn C N bs bm true sn sub ab col dd k0 k1 k2 k3 k5 "ValueError.__new__") ∧ PySem.HandSPX.refsVE bm = true := by
  unfold oexObjB at q
  split at q
  · rename_i dd cd sl ho
    split at q
    · rename_i C' bm k0 k1 k2 k3 n k5 hm hs
      simp only [Bool.and_eq_true, beq_iff_eq, Bool.not_eq_true'] at q
      obtain ⟨rfl, rfl, hdel, hd, ht⟩ := q
      obtain ⟨nm, bs, mro, ns, qn, hdd, sn, sub, ab, col, del⟩ := cd
      dsimp only at hm hdel hd
      subst hm hdel hd
      have hsl : sl = #[k0, k1, k2, k3, some (.builtin "ValueError.__new__"), k5] := by
        obtain ⟨l⟩ := sl
        simp only at hs
        rw [hs]
      subst hsl
      exact ⟨nm, qn, ns, bs, bm, sn, sub, ab, col, dd, k0, k1, k2, k3, k5, ho, ht⟩
    · cases q
  · cases q
theorem oexB_ok (h : oexB K C = true) : OexC K C := by
  obtain ⟨h1, h⟩ := ba h
  obtain ⟨h2, h⟩ := ba h
  obtain ⟨h3, h⟩ := ba h
  obtain ⟨h4, h5⟩ := ba h
  exact ⟨oexObjB_ok h1, eqO_ok h2, of_decide_eq_true h3, of_decide_eq_true h4, h5⟩
end
end MR
set_option maxHeartbeats 4000000
/-! Mirror 49: super in a def of the text; module constants; dicts. -/
namespace MR
open PySem PySem.Spec PyProof.Rows L2 He
section
variable {P : Program} {K : PySem.W.Frag} {mg : Str → Option Value} {D : Addr} {d : FnA}
theorem fileB_ok {c : Addr} {file : Str} (h : fileB K c file = true) : ∃ ccl cdd vs ccs x tf, K.lookup c = some ⟨ccl, cdd, .fields vs, ccs⟩ ∧ vs[2]? = some (.str x tf) ∧ (file == x) = true := by
  unfold fileB at h
  split at h
  · rename_i e
    split at h
    · rename_i e2
      exact ⟨_, _, _, _, _, _, e, e2, h⟩
    · cases h
  · cases h
theorem FnZ.supF (z : FnZ K d) {sf : Str} (har : ((defArgs d.st).posonlyargs ++ (defArgs d.st).args).head?.map (·.arg) = some sf) (hf : fileB K (cdAt K (d.at_ K)) P.main.file = true) (hc : cellB K (ccAt K (d.at_ K)) D = true) (hD : clsSB K D = true) (hn : mg "super" = none)
    (ht : (P.main.scope.names.lookup ("super" : Str)).isSome = false) : SupF P K mg (d.at_ K) (ccAt K (d.at_ K)) (cdAt K (d.at_ K)) D sf := by
  obtain ⟨oc, od, fd, osl, c, lk, e1, e2, e3, e4, e5, e6, e7, e8, e9, e10, e11⟩ := z.obj
  refine ⟨?_, fileB_ok hf, cellB_ok hc, Option.isSome_iff_exists.mp hD, hn, ht⟩
  cases q : ((defArgs d.st).posonlyargs ++ (defArgs d.st).args).head? with
  | none => rw [q] at har; cases har
  | some ar =>
    rw [q] at har
    exact ⟨oc, od, fd, osl, ar, lk, by rw [e3]; exact q, Option.some.inj har⟩
end
/-! a module constant -/
section
variable {K : PySem.W.Frag} {mg : Str → Option Value} {h : Heap} {w : World}
theorem con_int (X : K.In h) (G : h.Ns mainGlobals mg) {x : Str} {i : Int} (c : (Fa.int x i).ok K = true) : ∃ u, mg x = some u ∧ RelV (vOf (.int i)) u := by
  obtain ⟨t, e⟩ := int_ok X G c
  exact ⟨_, e, ⟨t, rfl⟩⟩
theorem kdic_of {p : Addr} {ks : List Str} {tab : List (List Nat × Int)} {mis : List (List Nat)} (hd : He.dicW K p = some (keysIn w.params ks)) (hn : nsB K p tab mis = true) : KDic K w p tab mis := by
  obtain ⟨es, n, k⟩ := He.dicW_ok hd
  obtain ⟨h1, h2⟩ := ba hn
  refine ⟨⟨es, n, k.at_, k.lit, fun q hq => ?_, fun z hz => eqO_ok (List.all_eq_true.mp h2 z hz)⟩, k.low⟩
  have := List.all_eq_true.mp h1 q hq
  split at this
  · rename_i u e
    exact ⟨u, e, relB_ok this⟩
  · cases this
end
end MR
set_option maxHeartbeats 4000000
/-! Mirror 50: _law_word as a callee. -/
namespace MR
open PySem PySem.Spec PyProof.Rows L2 He
section
variable {P : Program} {w : World} {K : PySem.W.Frag} {mg : Str → Option Value} {base : Heap}
theorem wordC_of (z : FnZ K d__law_word) (W : WordT K (cstOf K)) (M : WordM mg (cstOf K)) (hm : mg "_law_word" = some (.ref (ga K "_law_word"))) : WordC P w K mg base (cstOf K) := by
  obtain ⟨fd, oc, od, kV, doc, pm, an, ct, osl, rfl, lk, hcd⟩ := z.funC rfl
  have F : Fun K "_law_word" "_law_word" (top 60) (ga K "_law_word") _ := ⟨⟨oc, od, kV, doc, pm, an, _, ct, osl, rfl, lk, hcd⟩, z.keep⟩
  refine ⟨ga K "_law_word", _, _, _, _, _, _, _, _, _, oc, an, od, osl, hm, z.keep, lk, hcd, F.binds (ps := ["_law_call"]) fun _ _ _ _ _ _ us hl => match us, hl with | [_], _ => rfl, ⟨rfl, rfl, rfl, by decide +kernel, rfl, by decide +kernel, by decide +kernel⟩, .inl rfl, ?_⟩
  intro X k hK hmg hr
  subst hK
  subst hmg
  exact word_gives W M ⟨rfl, rfl, rfl, rfl, rfl, rfl, rfl, rfl, rfl, rfl, rfl⟩ hr rfl rfl
end
end MR
set_option maxHeartbeats 4000000
/-! Mirror 51: all the facts as one Bool; what follows of it. -/
namespace MR
open PySem PySem.Spec PyProof.Rows L2 He
section
variable {K : PySem.W.Frag} {cs : List Nat} {m : Str} {d : FnA}
end
end MR
set_option maxHeartbeats 4000000
/-! Mirror 52: all that is known, in one structure; what the rules ask, out of it. -/
namespace MR
open PySem PySem.Spec PyProof.Rows L2 He
structure ZZ (w : World) (K : PySem.W.Frag) (mg : Str → Option Value) (base : Heap) : Prop where
  fn : ∀ (i : Nat) (d : FnA), fnL[i]? = some d → FnZ K d
  kin : K.In base
  ns : base.Ns mainGlobals mg
  ex : exB PR K = true
  tS : He.dicW K (ga K "SIZES") = some (keysIn w.params keysS)
  tE : He.dicW K (ga K "ENDS") = some (keysIn w.params keysE)
  tab : ∀ x ∈ (["_law_texts_right", "_law_desk_right", "_law_full_right"] : List Str), LamX.TabB base mg (lawT K x).1 (lawT K x).2
structure XX (K : PySem.W.Frag) : Prop where
  a1 : x1 K = true
  a2 : x2 K = true
  a3 : x3 K = true
  a4 : x4 K = true
  a5 : x5 K = true
  a6 : x6 K = true
  a7 : x7 PR K = true
  a8 : x8 K = true
  a9 : x9 K = true
  a10 : x10 K = true
  a11 : x11 K = true
  a12 : x12 K = true
  a13 : x13 PR K = true
  a14 : x14 K = true
  a15 : x15 K = true
section
variable {w : World} {K : PySem.W.Frag} {mg : Str → Option Value} {base : Heap}
theorem ZZ.xx (Z : ZZ w K mg base) : XX K := by
  obtain ⟨h1, h2⟩ := ba Z.ex
  obtain ⟨b1, h1⟩ := ba h1
  obtain ⟨b2, h1⟩ := ba h1
  obtain ⟨b3, h1⟩ := ba h1
  obtain ⟨b4, b5⟩ := ba h1
  obtain ⟨h2, h3⟩ := ba h2
  obtain ⟨b6, h2⟩ := ba h2
  obtain ⟨b7, h2⟩ := ba h2
  obtain ⟨b8, h2⟩ := ba h2
  obtain ⟨b9, b10⟩ := ba h2
  obtain ⟨b11, h3⟩ := ba h3
  obtain ⟨b12, h3⟩ := ba h3
  obtain ⟨b13, h3⟩ := ba h3
  obtain ⟨b14, b15⟩ := ba h3
  exact ⟨b1, b2, b3, b4, b5, b6, b7, b8, b9, b10, b11, b12, b13, b14, b15⟩
theorem ZZ.glo (Z : ZZ w K mg base) (i : Nat) {x : Str} (h : gloL[i]? = some x := by rfl) : mg x = some (.ref (ga K x)) := glo_ok Z.kin Z.ns (List.all_eq_true.mp Z.xx.a1 x (List.mem_of_getElem? h))
theorem ZZ.free (Z : ZZ w K mg base) (i : Nat) {x : Str} (h : freeL[i]? = some x := by rfl) : mg x = none := free_ok Z.kin Z.ns (List.all_eq_true.mp Z.xx.a2 x (List.mem_of_getElem? h))
theorem ZZ.int (Z : ZZ w K mg base) (i : Nat) {x : Str} {n : Int} (h : intL[i]? = some (x, n) := by rfl) : ∃ u, mg x = some u ∧ RelV (vOf (.int n)) u := con_int Z.kin Z.ns (List.all_eq_true.mp Z.xx.a3 (x, n) (List.mem_of_getElem? h))
theorem ZZ.slot (Z : ZZ w K mg base) (i : Nat) {x : Str} {ix : Nat → Option Nat} (hix : ∀ c j, ix c = some j → c ∈ [24, 26, 38, 41, 42]) (h : slotL[i]? = some (x, ix) := by rfl) : SlotIx (cstOf K) K x ix := slotsB_ok hix (List.all_eq_true.mp Z.xx.a4 (x, ix) (List.mem_of_getElem? h))
theorem raw0 {P : Program} {w : World} {CX : CXT} {k : Nat} {f : Addr} {fd : FuncData} {ps : List Str} {sp : Sp} (o : FnOk P w K mg base CX k f fd ps sp) (b : Binds K fd ps []) : FnR P w K mg base CX k f sp := (o.raw b .nil).imp fun vs H Q E h => by rw [List.append_nil]; exact h
variable {d : FnA} {k n : Nat} {m : Fn} {fd : FuncData} {ps : List Str}
theorem ZZ.cal (Z : ZZ w K mg base) {x : Str} (hm : mg x = some (.ref (d.at_ K))) (z : FnZ K d) (o : FnOk PR w K mg base (L2.CX PR w) k (d.at_ K) fd ps (spM (cstOf K) n m)) (b : Binds K fd ps []) (hl : ps.length = n := by rfl) : Cal PR w K mg base (cstOf K) x k n m := ⟨⟨_, fd, ps, hl, hm, z.keep, b, o⟩⟩
theorem ZZ.meth (Z : ZZ w K mg base) (i : Nat) {x : Str} {cs : List Nat} (o : FnOk PR w K mg base (L2.CX PR w) k (d.at_ K) fd ps (spM (cstOf K) n m)) (b : Binds K fd ps []) (h : methL[i]? = some (x, cs, d) := by rfl) : MethT PR w K mg base (cstOf K) x cs k n m := ⟨fun c hc => by
  obtain ⟨h1, h2⟩ := ba (List.all_eq_true.mp (List.all_eq_true.mp Z.xx.a9 (x, cs, d) (List.mem_of_getElem? h)) c hc)
  exact ⟨_, sclsB_ok h1, methB_ok h2, raw0 o b⟩⟩
theorem ZZ.own (Z : ZZ w K mg base) (i : Nat) {x : Str} {cs : List Nat} (z : FnZ K d) (o : FnOk PR w K mg base (L2.CX PR w) k (d.at_ K) fd ps (spM (cstOf K) n m)) (b : Binds K fd ps []) (h : ownL[i]? = some (x, cs, d) := by rfl) : OwnG PR w K mg base (cstOf K) x cs k n m := ⟨fun c hc =>
  ⟨_, eqO_ok (List.all_eq_true.mp (List.all_eq_true.mp Z.xx.a10 (x, cs, d) (List.mem_of_getElem? h)) c hc), z.isFn, z.fnIn, raw0 o b⟩⟩
theorem ZZ.prop (Z : ZZ w K mg base) (i : Nat) {x : Str} {cs : List Nat} (o : FnOk PR w K mg base (L2.CX PR w) k (d.at_ K) fd ps (spM (cstOf K) 1 m)) (b : Binds K fd ps []) (h : propL[i]? = some (x, cs, d) := by rfl) : PropT PR w K mg base (cstOf K) x cs k m := ⟨fun c hc => by
  obtain ⟨h1, h2⟩ := ba (List.all_eq_true.mp (List.all_eq_true.mp Z.xx.a11 (x, cs, d) (List.mem_of_getElem? h)) c hc)
  obtain ⟨p, k1, k2, k3, k4⟩ := propB_ok h2
  exact ⟨p, _, sclsB_ok h1, k1, k2, k3, k4, raw0 o b⟩⟩
theorem ZZ.mkr (Z : ZZ w K mg base) (i : Nat) {c : Nat} (h : mkL[i]? = some (c, d) := by rfl) : Mk K (kc K c) (d.at_ K) := mkB_ok (List.all_eq_true.mp Z.xx.a12 (c, d) (List.mem_of_getElem? h))
theorem ZZ.mk0 (Z : ZZ w K mg base) (i : Nat) {c : Nat} {x : Str} (hm : mg x = some (.ref (kc K c))) (o : FnOk PR w K mg base (L2.CX PR w) k (d.at_ K) fd ps (spM (cstOf K) n m)) (b : Binds K fd ps []) (hl : ps.length = n := by rfl) (h : mkL[i]? = some (c, d) := by rfl) : MkT PR w K mg base (cstOf K) x c k n m [] :=
  ⟨⟨_, fd, ps, [], [], Z.mkr i h, hl, o, hm, b, .nil, fun _ => .nil⟩⟩
/-- a def that says super -/
structure SupZ (K : PySem.W.Frag) (mg : Str → Option Value) (d : FnA) (D : Addr) (kws : List (Str × V)) (fd : FuncData) : Prop where
  f : FunS K d.name d.qual d.st kws (d.at_ K) (ccAt K (d.at_ K)) (cdAt K (d.at_ K)) D fd
  s : SupF PR K mg (d.at_ K) (ccAt K (d.at_ K)) (cdAt K (d.at_ K)) D "self"
theorem supZ_of {D : Addr} {kws : List (Str × V)} (z : FnZ K d) (h : supDB K PR D d kws = true) (hn : mg "super" = none) (hcl : d.cl = [cw] := by rfl) (har : ((defArgs d.st).posonlyargs ++ (defArgs d.st).args).head?.map (·.arg) = some "self" := by rfl) (ht : (PR.main.scope.names.lookup ("super" : Str)).isSome = false := by kernel_rfl) : ∃ fd, SupZ K mg d D kws fd := by
  obtain ⟨h1, h⟩ := ba h
  obtain ⟨h2, h⟩ := ba h
  obtain ⟨h3, h4⟩ := ba h
  obtain ⟨fd, F⟩ := z.funS hcl h1 h2
  exact ⟨fd, F, z.supF har h3 h1 h4 hn ht⟩
theorem supT_of {P : Program} {D : Addr} {cs : List Nat} {x : Str} (h : supsB K D x cs d = true) (R : FnR P w K mg base (L2.CX P w) k (d.at_ K) (spM (cstOf K) n m)) : SupT P w K mg base (cstOf K) D x cs k n m := ⟨fun c hc => ⟨_, supCB_ok (List.all_eq_true.mp h c hc), R⟩⟩
/-- an exception with an __init__ -/
theorem excT_of {c : Nat} {x : Str} {fl : List Nat} (z : FnZ K d) (h : excIB K PR c d fl = true) (hn : mg "super" = none) (hm : mg x = some (.ref (kc K c))) (hcl : d.cl = [cw]) (har : ((defArgs d.st).posonlyargs ++ (defArgs d.st).args).head?.map (·.arg) = some "self")
    (ho : ∀ fd, SupZ K mg d (kc K c) [] fd → FnOk PR w K mg base (L2.CX PR w) 1 (d.at_ K) fd ["self", sOf fl] (spInit K (kc K c) (sOf fl)) ∧ Binds K fd ["self", sOf fl] []) : ExT PR w K mg base (cstOf K) x c 1 (kc K c) fl := by
  obtain ⟨h1, h⟩ := ba h
  obtain ⟨h2, h⟩ := ba h
  obtain ⟨h3, h⟩ := ba h
  obtain ⟨h4, h⟩ := ba h
  obtain ⟨h5, h6⟩ := ba h
  obtain ⟨fd, S⟩ := supZ_of z h6 hn hcl har
  obtain ⟨k1, k2⟩ := ho fd S
  exact ⟨oexB_ok h1, supEB_ok h2, eqO_ok h3, hm, ⟨_, fd, eqO_ok h4, of_decide_eq_true h5, k1, k2⟩⟩
theorem FunS.bindsN {x qual : Str} {st : Stmt} {f cc cda D : Addr} {kws : List (Str × V)} (Fd : FunS K x qual st kws f cc cda D fd)
    (h : ∀ (kV doc pm : Value) (an : Option Addr) (ct : Value) (us : List Value), us.length = ps.length → bindArgs (PySem.W.fnX x qual (defArgs st) (defBody st) (defScope st) [(cw, cc)] .none kV doc pm an (.ref cda) ct) ⟨us, []⟩ = pure (ps.zip us)) : Binds K fd ps [] := by
  obtain ⟨oc, od, kV, doc, pm, an, ct, osl, rfl, lk, hcd, hK⟩ := Fd.ex
  intro s us X hl
  rw [List.append_nil] at hl ⊢
  exact .of_eq (h kV doc pm an ct us hl)
theorem ex0_of {c : Nat} {x : Str} (h : ex0B K (kc K c) = true) (hm : mg x = some (.ref (kc K c))) : Ex0 K mg (cstOf K) x c := by
  obtain ⟨h1, h⟩ := ba h
  obtain ⟨h2, h⟩ := ba h
  obtain ⟨h3, h4⟩ := ba h
  exact ⟨h1, hm, h2, of_decide_eq_true h3, of_decide_eq_true h4⟩
theorem init_BadProgram (Z : ZZ w K mg base) : ExT PR w K mg base (cstOf K) "BadProgram" 3 1 (kc K 3) (tx "part") := by
  obtain ⟨h1, h⟩ := ba Z.xx.a7
  refine excT_of (Z.fn 0 d_BadProgram___init__ rfl) h1 (Z.free 14) (Z.glo 1) rfl rfl fun fd S => ⟨?_, FunS.bindsN S.f fun _ _ _ _ _ us hl => match us, hl with | [_, _], _ => rfl⟩
  exact init_ok (fl := sOf (tx "part")) S.f S.s (sscope_by (by decide +kernel)) (by rfl) (by rfl) (by rfl) (by rfl) (by rfl) (by decide) (by decide) (fun _ => rfl) (fun _ => rfl)
theorem init_BadSingle (Z : ZZ w K mg base) : ExT PR w K mg base (cstOf K) "BadSingle" 4 1 (kc K 4) (tx "part") := by
  obtain ⟨_, h⟩ := ba Z.xx.a7
  obtain ⟨h1, h⟩ := ba h
  refine excT_of (Z.fn 1 d_BadSingle___init__ rfl) h1 (Z.free 14) (Z.glo 2) rfl rfl fun fd S => ⟨?_, FunS.bindsN S.f fun _ _ _ _ _ us hl => match us, hl with | [_, _], _ => rfl⟩
  exact init_ok (fl := sOf (tx "part")) S.f S.s (sscope_by (by decide +kernel)) (by rfl) (by rfl) (by rfl) (by rfl) (by rfl) (by decide) (by decide) (fun _ => rfl) (fun _ => rfl)
theorem init_BadText (Z : ZZ w K mg base) : ExT PR w K mg base (cstOf K) "BadText" 8 1 (kc K 8) (tx "row") := by
  obtain ⟨_, h⟩ := ba Z.xx.a7
  obtain ⟨_, h1⟩ := ba h
  refine excT_of (Z.fn 2 d_BadText___init__ rfl) h1 (Z.free 14) (Z.glo 5) rfl rfl fun fd S => ⟨?_, FunS.bindsN S.f fun _ _ _ _ _ us hl => match us, hl with | [_, _], _ => rfl⟩
  exact init_ok (fl := sOf (tx "row")) S.f S.s (sscope_by (by decide +kernel)) (by rfl) (by rfl) (by rfl) (by rfl) (by rfl) (by decide) (by decide) (fun _ => rfl) (fun _ => rfl)
theorem ix_mem {f : Nat → Option Nat} (h : ∀ c, c ∉ [24, 26, 38, 41, 42] → f c = none) : ∀ c j, f c = some j → c ∈ [24, 26, 38, 41, 42] := fun c j e => by
  by_cases z : c ∈ [24, 26, 38, 41, 42]
  · exact z
  · rw [h c z] at e; cases e
theorem ZZ.tx (Z : ZZ w K mg base) : TX PR w K mg base (cstOf K) (fun _ => 0) (fun _ => 0) (fun _ => 0) (fun _ => kc K 3) (fun _ => kc K 4) (fun _ => kc K 8) misS misE := by
  have a5 := ba Z.xx.a5
  have a6 : ∀ c ∈ [5, 7, 9], ex0B K (kc K c) = true := fun c hc => List.all_eq_true.mp Z.xx.a6 c hc
  have a14 := ba Z.xx.a14
  exact {
    isi := Z.free 0, int := Z.free 1, bool := Z.free 2, str := Z.free 3, tuple := Z.free 4, list := Z.free 5, dict := Z.free 6, len := Z.free 7, all := Z.free 8, any := Z.free 9, min := Z.free 10, range := Z.free 11, enum := Z.free 12, zip := Z.free 13
    mv := Z.int 0, mb := Z.int 1, mr := Z.int 2, ms := Z.int 3, mh := Z.int 4, m1 := Z.int 5, m2 := Z.int 6
    sizes := ⟨_, Z.glo 48, kdic_of Z.tS a14.1⟩
    ends := ⟨_, Z.glo 49, kdic_of Z.tE a14.2⟩
    sBlocks := Z.slot 0 (by intro c j e; simp only [ixBlocks, ixHanded, ixMany, ixSpan, ixPast, ixNotes, ixFloor, ixDesk] at e; split at e <;> first | (cases e; simp) | cases e)
    sHanded := Z.slot 1 (by intro c j e; simp only [ixBlocks, ixHanded, ixMany, ixSpan, ixPast, ixNotes, ixFloor, ixDesk] at e; split at e <;> first | (cases e; simp) | cases e)
    sMany := Z.slot 2 (by intro c j e; simp only [ixBlocks, ixHanded, ixMany, ixSpan, ixPast, ixNotes, ixFloor, ixDesk] at e; split at e <;> first | (cases e; simp) | cases e)
    sSpan := Z.slot 3 (by intro c j e; simp only [ixBlocks, ixHanded, ixMany, ixSpan, ixPast, ixNotes, ixFloor, ixDesk] at e; split at e <;> first | (cases e; simp) | cases e)
    sPast := Z.slot 4 (by intro c j e; simp only [ixBlocks, ixHanded, ixMany, ixSpan, ixPast, ixNotes, ixFloor, ixDesk] at e; split at e <;> first | (cases e; simp) | cases e)
    sNotes := Z.slot 5 (by intro c j e; simp only [ixBlocks, ixHanded, ixMany, ixSpan, ixPast, ixNotes, ixFloor, ixDesk] at e; split at e <;> first | (cases e; simp) | cases e)
    sFloor := Z.slot 6 (by intro c j e; simp only [ixBlocks, ixHanded, ixMany, ixSpan, ixPast, ixNotes, ixFloor, ixDesk] at e; split at e <;> first | (cases e; simp) | cases e)
    sDesk := Z.slot 7 (by intro c j e; simp only [ixBlocks, ixHanded, ixMany, ixSpan, ixPast, ixNotes, ixFloor, ixDesk] at e; split at e <;> first | (cases e; simp) | cases e)
    cProgram := Z.glo 16
    cSingle := Z.glo 24
    kProgram := isCB_ok a5.1
    kSingle := isCB_ok a5.2
    xProgram := init_BadProgram Z
    xSingle := init_BadSingle Z
    xText := init_BadText Z
    xBlock := ex0_of (a6 5 (by simp)) (Z.glo 3)
    xNothing := ex0_of (a6 7 (by simp)) (Z.glo 4)
    xEdit := ex0_of (a6 9 (by simp)) (Z.glo 6) }
theorem ZZ.word (Z : ZZ w K mg base) : WordC PR w K mg base (cstOf K) := by
  have a8 := ba Z.xx.a8
  exact wordC_of (Z.fn 61 d__law_word rfl) (wordTB_ok a8.1) ⟨Z.free 0, Z.free 15, Z.glo 0, Z.glo 1, Z.glo 2, Z.glo 3, Z.glo 4, Z.glo 5, Z.glo 6⟩ (Z.glo 42)
theorem ZZ.ne (Z : ZZ w K mg base) : ∀ c ∈ [26], NeC K ((cstOf K).cls c) := fun c hc => by
  have : c = 26 := by simpa using hc
  subst this
  exact neB_ok (ba Z.xx.a8).2
theorem ZZ.lamT (Z : ZZ w K mg base) : LamT (cstOf K) (lawT K "_law_texts_right").2 (lamq "_law_texts_right") := by
  obtain ⟨h1, h⟩ := ba (ba Z.xx.a15).2
  have h1 := of_decide_eq_true h1
  refine .inl ⟨List.mem_cons_self .., fun p hp e => ?_⟩
  have hp : p = ((lawT K "_law_texts_right").2, lamq "_law_texts_right") ∨ p = ((lawT K "_law_desk_right").2, lamq "_law_desk_right") := by simpa [cstOf] using hp
  rcases hp with rfl | rfl
  · rfl
  · exact absurd e.symm h1
theorem ZZ.lamD (Z : ZZ w K mg base) : LamT (cstOf K) (lawT K "_law_desk_right").2 (lamq "_law_desk_right") := by
  obtain ⟨h1, h⟩ := ba (ba Z.xx.a15).2
  have h1 := of_decide_eq_true h1
  refine .inl ⟨List.mem_cons_of_mem _ (List.mem_cons_self ..), fun p hp e => ?_⟩
  have hp : p = ((lawT K "_law_texts_right").2, lamq "_law_texts_right") ∨ p = ((lawT K "_law_desk_right").2, lamq "_law_desk_right") := by simpa [cstOf] using hp
  rcases hp with rfl | rfl
  · exact absurd e h1
  · rfl
theorem lamF : LamT (cstOf K) (lawT K "_law_full_right").2 (lamq "_law_full_right") := .inr rfl
theorem ZZ.nst (Z : ZZ w K mg base) : (cstOf K).nst.1 ∉ (cstOf K).tabs.map (·.1) := by
  obtain ⟨h1, h⟩ := ba (ba Z.xx.a15).2
  obtain ⟨h2, h3⟩ := ba h
  have h2 := of_decide_eq_true h2
  have h3 := of_decide_eq_true h3
  show (lawT K "_law_full_right").2 ∉ [(lawT K "_law_texts_right").2, (lawT K "_law_desk_right").2]
  simp only [List.mem_cons, List.not_mem_nil, or_false, not_or]
  exact ⟨h2, h3⟩
end
end MR
set_option maxHeartbeats 4000000
/-! Mirror 53: every def, out of the one structure. -/
namespace MR
open PySem PySem.Spec PyProof.Rows L2 He
section
variable {w : World} {K : PySem.W.Frag} {mg : Str → Option Value} {base : Heap}
theorem f_is_integer (Z : ZZ w K mg base) : ∃ fd, Fun K d_is_integer.name d_is_integer.qual d_is_integer.st (d_is_integer.at_ K) fd ∧ FnOk PR w K mg base (L2.CX PR w) 3 (d_is_integer.at_ K) fd [("thing" : Str), ("low" : Str), ("high" : Str)] (spM (cstOf K) 3 m_is_integer) ∧ Binds K fd [("thing" : Str), ("low" : Str), ("high" : Str)] [] := by
  obtain ⟨fd, F⟩ := (Z.fn 3 d_is_integer rfl).fun_ rfl
  exact ⟨fd, F, ok_is_integer Z.tx  F, F.binds fun _ _ _ _ _ _ us hl => match us, hl with | [_, _, _], _ => rfl⟩
theorem c_is_integer (Z : ZZ w K mg base) : Cal PR w K mg base (cstOf K) "is_integer" 3 3 m_is_integer := by
  obtain ⟨fd, F, o, b⟩ := f_is_integer Z
  exact Z.cal (Z.glo 7) (Z.fn 3 d_is_integer rfl) o b
theorem f_is_row (Z : ZZ w K mg base) : ∃ fd, Fun K d_is_row.name d_is_row.qual d_is_row.st (d_is_row.at_ K) fd ∧ FnOk PR w K mg base (L2.CX PR w) 4 (d_is_row.at_ K) fd [("thing" : Str), ("many" : Str), ("span" : Str)] (spM (cstOf K) 3 m_is_row) ∧ Binds K fd [("thing" : Str), ("many" : Str), ("span" : Str)] [] := by
  obtain ⟨fd, F⟩ := (Z.fn 4 d_is_row rfl).fun_ rfl
  exact ⟨fd, F, ok_is_row Z.tx (c_is_integer Z) F, F.binds fun _ _ _ _ _ _ us hl => match us, hl with | [_, _, _], _ => rfl⟩
theorem c_is_row (Z : ZZ w K mg base) : Cal PR w K mg base (cstOf K) "is_row" 4 3 m_is_row := by
  obtain ⟨fd, F, o, b⟩ := f_is_row Z
  exact Z.cal (Z.glo 8) (Z.fn 4 d_is_row rfl) o b
theorem f_is_end (Z : ZZ w K mg base) : ∃ fd, Fun K d_is_end.name d_is_end.qual d_is_end.st (d_is_end.at_ K) fd ∧ FnOk PR w K mg base (L2.CX PR w) 4 (d_is_end.at_ K) fd [("thing" : Str), ("many" : Str), ("size" : Str)] (spM (cstOf K) 3 m_is_end) ∧ Binds K fd [("thing" : Str), ("many" : Str), ("size" : Str)] [] := by
  obtain ⟨fd, F⟩ := (Z.fn 5 d_is_end rfl).fun_ rfl
  exact ⟨fd, F, ok_is_end Z.tx (c_is_integer Z) F, F.binds fun _ _ _ _ _ _ us hl => match us, hl with | [_, _, _], _ => rfl⟩
theorem c_is_end (Z : ZZ w K mg base) : Cal PR w K mg base (cstOf K) "is_end" 4 3 m_is_end := by
  obtain ⟨fd, F, o, b⟩ := f_is_end Z
  exact Z.cal (Z.glo 9) (Z.fn 5 d_is_end rfl) o b
theorem f_targets_of (Z : ZZ w K mg base) : ∃ fd, Fun K d_targets_of.name d_targets_of.qual d_targets_of.st (d_targets_of.at_ K) fd ∧ FnOk PR w K mg base (L2.CX PR w) 3 (d_targets_of.at_ K) fd [("end" : Str)] (spM (cstOf K) 1 m_targets_of) ∧ Binds K fd [("end" : Str)] [] := by
  obtain ⟨fd, F⟩ := (Z.fn 6 d_targets_of rfl).fun_ rfl
  exact ⟨fd, F, ok_targets_of Z.tx  F, F.binds fun _ _ _ _ _ _ us hl => match us, hl with | [_], _ => rfl⟩
theorem c_targets_of (Z : ZZ w K mg base) : Cal PR w K mg base (cstOf K) "targets_of" 3 1 m_targets_of := by
  obtain ⟨fd, F, o, b⟩ := f_targets_of Z
  exact Z.cal (Z.glo 10) (Z.fn 6 d_targets_of rfl) o b
theorem f_defined_by (Z : ZZ w K mg base) : ∃ fd, Fun K d_defined_by.name d_defined_by.qual d_defined_by.st (d_defined_by.at_ K) fd ∧ FnOk PR w K mg base (L2.CX PR w) 3 (d_defined_by.at_ K) fd [("row" : Str)] (spM (cstOf K) 1 m_defined_by) ∧ Binds K fd [("row" : Str)] [] := by
  obtain ⟨fd, F⟩ := (Z.fn 7 d_defined_by rfl).fun_ rfl
  exact ⟨fd, F, ok_defined_by Z.tx  F, F.binds fun _ _ _ _ _ _ us hl => match us, hl with | [_], _ => rfl⟩
theorem c_defined_by (Z : ZZ w K mg base) : Cal PR w K mg base (cstOf K) "defined_by" 3 1 m_defined_by := by
  obtain ⟨fd, F, o, b⟩ := f_defined_by Z
  exact Z.cal (Z.glo 11) (Z.fn 7 d_defined_by rfl) o b
theorem f_used_by (Z : ZZ w K mg base) : ∃ fd, Fun K d_used_by.name d_used_by.qual d_used_by.st (d_used_by.at_ K) fd ∧ FnOk PR w K mg base (L2.CX PR w) 3 (d_used_by.at_ K) fd [("row" : Str)] (spM (cstOf K) 1 m_used_by) ∧ Binds K fd [("row" : Str)] [] := by
  obtain ⟨fd, F⟩ := (Z.fn 8 d_used_by rfl).fun_ rfl
  exact ⟨fd, F, ok_used_by Z.tx  F, F.binds fun _ _ _ _ _ _ us hl => match us, hl with | [_], _ => rfl⟩
theorem c_used_by (Z : ZZ w K mg base) : Cal PR w K mg base (cstOf K) "used_by" 3 1 m_used_by := by
  obtain ⟨fd, F, o, b⟩ := f_used_by Z
  exact Z.cal (Z.glo 12) (Z.fn 8 d_used_by rfl) o b
theorem f_are_reached (Z : ZZ w K mg base) : ∃ fd, Fun K d_are_reached.name d_are_reached.qual d_are_reached.st (d_are_reached.at_ K) fd ∧ FnOk PR w K mg base (L2.CX PR w) 4 (d_are_reached.at_ K) fd [("blocks" : Str)] (spM (cstOf K) 1 m_are_reached) ∧ Binds K fd [("blocks" : Str)] [] := by
  obtain ⟨fd, F⟩ := (Z.fn 9 d_are_reached rfl).fun_ rfl
  exact ⟨fd, F, ok_are_reached Z.tx (c_targets_of Z) F, F.binds fun _ _ _ _ _ _ us hl => match us, hl with | [_], _ => rfl⟩
theorem c_are_reached (Z : ZZ w K mg base) : Cal PR w K mg base (cstOf K) "are_reached" 4 1 m_are_reached := by
  obtain ⟨fd, F, o, b⟩ := f_are_reached Z
  exact Z.cal (Z.glo 13) (Z.fn 9 d_are_reached rfl) o b
theorem f_is_plain_block (Z : ZZ w K mg base) : ∃ fd, Fun K d_is_plain_block.name d_is_plain_block.qual d_is_plain_block.st (d_is_plain_block.at_ K) fd ∧ FnOk PR w K mg base (L2.CX PR w) 5 (d_is_plain_block.at_ K) fd [("thing" : Str), ("many" : Str), ("span" : Str), ("size" : Str)] (spM (cstOf K) 4 m_is_plain_block) ∧ Binds K fd [("thing" : Str), ("many" : Str), ("span" : Str), ("size" : Str)] [] := by
  obtain ⟨fd, F⟩ := (Z.fn 16 d_is_plain_block rfl).fun_ rfl
  exact ⟨fd, F, ok_is_plain_block Z.tx (c_is_row Z) (c_is_end Z) F, F.binds fun _ _ _ _ _ _ us hl => match us, hl with | [_, _, _, _], _ => rfl⟩
theorem c_is_plain_block (Z : ZZ w K mg base) : Cal PR w K mg base (cstOf K) "is_plain_block" 5 4 m_is_plain_block := by
  obtain ⟨fd, F, o, b⟩ := f_is_plain_block Z
  exact Z.cal (Z.glo 15) (Z.fn 16 d_is_plain_block rfl) o b
theorem f_Blocks___init__ (Z : ZZ w K mg base) : ∃ fd, Fun K d_Blocks___init__.name d_Blocks___init__.qual d_Blocks___init__.st (d_Blocks___init__.at_ K) fd ∧ FnOk PR w K mg base (L2.CX PR w) 3 (d_Blocks___init__.at_ K) fd [("self" : Str), ("blocks" : Str)] (spM (cstOf K) 2 m_Blocks___init__) ∧ Binds K fd [("self" : Str), ("blocks" : Str)] [] := by
  obtain ⟨fd, F⟩ := (Z.fn 10 d_Blocks___init__ rfl).fun_ rfl
  exact ⟨fd, F, ok_Blocks___init__ Z.tx  F, F.binds fun _ _ _ _ _ _ us hl => match us, hl with | [_, _], _ => rfl⟩
theorem k_Blocks (Z : ZZ w K mg base) : MkT PR w K mg base (cstOf K) "Blocks" 24 3 2 m_Blocks___init__ [] := by
  obtain ⟨fd, F, o, b⟩ := f_Blocks___init__ Z
  exact Z.mk0 0 (Z.glo 14) o b
theorem f_Blocks___getitem__ (Z : ZZ w K mg base) : ∃ fd, Fun K d_Blocks___getitem__.name d_Blocks___getitem__.qual d_Blocks___getitem__.st (d_Blocks___getitem__.at_ K) fd ∧ FnOk PR w K mg base (L2.CX PR w) 4 (d_Blocks___getitem__.at_ K) fd [("self" : Str), ("block" : Str)] (spM (cstOf K) 2 m_Blocks___getitem__) ∧ Binds K fd [("self" : Str), ("block" : Str)] [] := by
  obtain ⟨fd, F⟩ := (Z.fn 11 d_Blocks___getitem__ rfl).fun_ rfl
  exact ⟨fd, F, ok_Blocks___getitem__ Z.tx (c_is_integer Z) F, F.binds fun _ _ _ _ _ _ us hl => match us, hl with | [_, _], _ => rfl⟩
theorem o_getitem (Z : ZZ w K mg base) : OwnG PR w K mg base (cstOf K) "__getitem__" [24, 26, 38] 4 2 m_Blocks___getitem__ := by
  obtain ⟨fd, F, o, b⟩ := f_Blocks___getitem__ Z
  exact Z.own 0 (Z.fn 11 d_Blocks___getitem__ rfl) o b
theorem f_Blocks_rows (Z : ZZ w K mg base) : ∃ fd, Fun K d_Blocks_rows.name d_Blocks_rows.qual d_Blocks_rows.st (d_Blocks_rows.at_ K) fd ∧ FnOk PR w K mg base (L2.CX PR w) 6 (d_Blocks_rows.at_ K) fd [("self" : Str), ("block" : Str)] (spM (cstOf K) 2 m_Blocks_rows) ∧ Binds K fd [("self" : Str), ("block" : Str)] [] := by
  obtain ⟨fd, F⟩ := (Z.fn 12 d_Blocks_rows rfl).fun_ rfl
  exact ⟨fd, F, ok_Blocks_rows Z.tx (o_getitem Z) F, F.binds fun _ _ _ _ _ _ us hl => match us, hl with | [_, _], _ => rfl⟩
theorem h_Blocks_rows (Z : ZZ w K mg base) : MethT PR w K mg base (cstOf K) "rows" [24, 26, 38] 6 2 m_Blocks_rows := by
  obtain ⟨fd, F, o, b⟩ := f_Blocks_rows Z
  exact Z.meth 0 o b
theorem f_Blocks_end (Z : ZZ w K mg base) : ∃ fd, Fun K d_Blocks_end.name d_Blocks_end.qual d_Blocks_end.st (d_Blocks_end.at_ K) fd ∧ FnOk PR w K mg base (L2.CX PR w) 6 (d_Blocks_end.at_ K) fd [("self" : Str), ("block" : Str)] (spM (cstOf K) 2 m_Blocks_end) ∧ Binds K fd [("self" : Str), ("block" : Str)] [] := by
  obtain ⟨fd, F⟩ := (Z.fn 13 d_Blocks_end rfl).fun_ rfl
  exact ⟨fd, F, ok_Blocks_end Z.tx (o_getitem Z) F, F.binds fun _ _ _ _ _ _ us hl => match us, hl with | [_, _], _ => rfl⟩
theorem h_Blocks_end (Z : ZZ w K mg base) : MethT PR w K mg base (cstOf K) "end" [24, 26, 38] 6 2 m_Blocks_end := by
  obtain ⟨fd, F, o, b⟩ := f_Blocks_end Z
  exact Z.meth 1 o b
theorem f_Blocks_followers (Z : ZZ w K mg base) : ∃ fd, Fun K d_Blocks_followers.name d_Blocks_followers.qual d_Blocks_followers.st (d_Blocks_followers.at_ K) fd ∧ FnOk PR w K mg base (L2.CX PR w) 7 (d_Blocks_followers.at_ K) fd [("self" : Str), ("block" : Str)] (spM (cstOf K) 2 m_Blocks_followers) ∧ Binds K fd [("self" : Str), ("block" : Str)] [] := by
  obtain ⟨fd, F⟩ := (Z.fn 14 d_Blocks_followers rfl).fun_ rfl
  exact ⟨fd, F, ok_Blocks_followers Z.tx (c_targets_of Z) (h_Blocks_end Z) F, F.binds fun _ _ _ _ _ _ us hl => match us, hl with | [_, _], _ => rfl⟩
theorem h_Blocks_followers (Z : ZZ w K mg base) : MethT PR w K mg base (cstOf K) "followers" [24, 26, 38] 7 2 m_Blocks_followers := by
  obtain ⟨fd, F, o, b⟩ := f_Blocks_followers Z
  exact Z.meth 2 o b
theorem f_Blocks_edges_into (Z : ZZ w K mg base) : ∃ fd, Fun K d_Blocks_edges_into.name d_Blocks_edges_into.qual d_Blocks_edges_into.st (d_Blocks_edges_into.at_ K) fd ∧ FnOk PR w K mg base (L2.CX PR w) 8 (d_Blocks_edges_into.at_ K) fd [("self" : Str), ("block" : Str)] (spM (cstOf K) 2 m_Blocks_edges_into) ∧ Binds K fd [("self" : Str), ("block" : Str)] [] := by
  obtain ⟨fd, F⟩ := (Z.fn 15 d_Blocks_edges_into rfl).fun_ rfl
  exact ⟨fd, F, ok_Blocks_edges_into Z.tx (o_getitem Z) (h_Blocks_followers Z) F, F.binds fun _ _ _ _ _ _ us hl => match us, hl with | [_, _], _ => rfl⟩
theorem h_Blocks_edges_into (Z : ZZ w K mg base) : MethT PR w K mg base (cstOf K) "edges_into" [24, 26, 38] 8 2 m_Blocks_edges_into := by
  obtain ⟨fd, F, o, b⟩ := f_Blocks_edges_into Z
  exact Z.meth 3 o b
theorem f_Program___init__ (Z : ZZ w K mg base) : ∃ fd, SupZ K mg d_Program___init__ (kc K 26) [("handed", .int 0), ("span", .int 4)] fd ∧ FnOk PR w K mg base (L2.CX PR w) 6 (d_Program___init__.at_ K) fd [("self" : Str), ("many" : Str), ("blocks" : Str), ("handed" : Str), ("span" : Str)] (spM (cstOf K) 5 m_Program___init__) := by
  obtain ⟨h1, h⟩ := ba Z.xx.a13
  obtain ⟨h2, h⟩ := ba h
  obtain ⟨h3, h4⟩ := ba h
  obtain ⟨fd, S⟩ := supZ_of (Z.fn 17 d_Program___init__ rfl) h1 (Z.free 14)
  have SM : SupT PR w K mg base (cstOf K) (kc K 26) "__init__" [26] 3 2 m_Blocks___init__ := by
    obtain ⟨fd, F, o, b⟩ := f_Blocks___init__ Z
    exact supT_of h3 (raw0 o b)
  exact ⟨fd, S, ok_Program___init__ Z.tx (c_is_integer Z) (c_is_plain_block Z) (c_are_reached Z) S.s SM S.f⟩
theorem k_Program (Z : ZZ w K mg base) : MkT PR w K mg base (cstOf K) "Program" 26 6 5 m_Program___init__ [.int 0, .int 4] := by
  obtain ⟨fd, S, o⟩ := f_Program___init__ Z
  obtain ⟨ds, v, b⟩ := FunS.binds0 (ps := [("self" : Str), ("many" : Str), ("blocks" : Str), ("handed" : Str), ("span" : Str)]) S.f 3 (by decide) rfl fun Dk doc pm an ct us ks h1 h2 => match us, h1, ks, h2 with
    | [_, _, _], _, [_, _], _ => ⟨_, _, _, _, _, _, rfl, rfl, _, _, _, _, _, _, rfl, rfl, rfl⟩
  exact ⟨⟨_, fd, _, _, ds, Z.mkr 1, rfl, o, Z.glo 16, b, v, fun ρ => .cons (.int 0) (.cons (.int 4) .nil)⟩⟩
theorem kk_Program (Z : ZZ w K mg base) : MkK PR w K mg base (cstOf K) "Program" 26 6 2 ["handed", "span"] m_Program___init__ := by
  obtain ⟨fd, S, o⟩ := f_Program___init__ Z
  exact ⟨⟨_, fd, [("self" : Str), ("many" : Str), ("blocks" : Str), ("handed" : Str), ("span" : Str)], Z.mkr 1, o, Z.glo 16, FunS.kbinds S.f 3 _ fun kV doc pm an ct us ws h1 h2 => match us, h1, ws, h2 with
    | [_, _, _], _, [_, _], _ => rfl⟩⟩
theorem f_Program_parts (Z : ZZ w K mg base) : ∃ fd, Fun K d_Program_parts.name d_Program_parts.qual d_Program_parts.st (d_Program_parts.at_ K) fd ∧ FnOk PR w K mg base (L2.CX PR w) 3 (d_Program_parts.at_ K) fd [("self" : Str)] (spM (cstOf K) 1 m_Program_parts) ∧ Binds K fd [("self" : Str)] [] := by
  obtain ⟨fd, F⟩ := (Z.fn 19 d_Program_parts rfl).fun_ rfl
  exact ⟨fd, F, ok_Program_parts Z.tx  F, F.binds fun _ _ _ _ _ _ us hl => match us, hl with | [_], _ => rfl⟩
theorem h_Program_parts (Z : ZZ w K mg base) : MethT PR w K mg base (cstOf K) "parts" [26] 3 1 m_Program_parts := by
  obtain ⟨fd, F, o, b⟩ := f_Program_parts Z
  exact Z.meth 4 o b
theorem f_Program___eq__ (Z : ZZ w K mg base) : ∃ fd, Fun K d_Program___eq__.name d_Program___eq__.qual d_Program___eq__.st (d_Program___eq__.at_ K) fd ∧ FnOk PR w K mg base (L2.CX PR w) 4 (d_Program___eq__.at_ K) fd [("self" : Str), ("other" : Str)] (spM (cstOf K) 2 m_Program___eq__) ∧ Binds K fd [("self" : Str), ("other" : Str)] [] := by
  obtain ⟨fd, F⟩ := (Z.fn 18 d_Program___eq__ rfl).fun_ rfl
  exact ⟨fd, F, ok_Program___eq__ Z.tx (h_Program_parts Z) F, F.binds fun _ _ _ _ _ _ us hl => match us, hl with | [_, _], _ => rfl⟩
theorem q_Program (Z : ZZ w K mg base) : OwnG PR w K mg base (cstOf K) "__eq__" [26] 4 2 m_Program___eq__ := by
  obtain ⟨fd, F, o, b⟩ := f_Program___eq__ Z
  exact Z.own 1 (Z.fn 18 d_Program___eq__ rfl) o b
theorem f_Program_with_blocks (Z : ZZ w K mg base) : ∃ fd, Fun K d_Program_with_blocks.name d_Program_with_blocks.qual d_Program_with_blocks.st (d_Program_with_blocks.at_ K) fd ∧ FnOk PR w K mg base (L2.CX PR w) 8 (d_Program_with_blocks.at_ K) fd [("self" : Str), ("blocks" : Str)] (spM (cstOf K) 2 m_Program_with_blocks) ∧ Binds K fd [("self" : Str), ("blocks" : Str)] [] := by
  obtain ⟨fd, F⟩ := (Z.fn 20 d_Program_with_blocks rfl).fun_ rfl
  exact ⟨fd, F, ok_Program_with_blocks Z.tx (kk_Program Z) F, F.binds fun _ _ _ _ _ _ us hl => match us, hl with | [_, _], _ => rfl⟩
theorem h_Program_with_blocks (Z : ZZ w K mg base) : MethT PR w K mg base (cstOf K) "with_blocks" [26] 8 2 m_Program_with_blocks := by
  obtain ⟨fd, F, o, b⟩ := f_Program_with_blocks Z
  exact Z.meth 5 o b
theorem f_check_program (Z : ZZ w K mg base) : ∃ fd, Fun K d_check_program.name d_check_program.qual d_check_program.st (d_check_program.at_ K) fd ∧ FnOk PR w K mg base (L2.CX PR w) 3 (d_check_program.at_ K) fd [("program" : Str)] (spM (cstOf K) 1 m_check_program) ∧ Binds K fd [("program" : Str)] [] := by
  obtain ⟨fd, F⟩ := (Z.fn 21 d_check_program rfl).fun_ rfl
  exact ⟨fd, F, ok_check_program Z.tx  F, F.binds fun _ _ _ _ _ _ us hl => match us, hl with | [_], _ => rfl⟩
theorem c_check_program (Z : ZZ w K mg base) : Cal PR w K mg base (cstOf K) "check_program" 3 1 m_check_program := by
  obtain ⟨fd, F, o, b⟩ := f_check_program Z
  exact Z.cal (Z.glo 17) (Z.fn 21 d_check_program rfl) o b
theorem f_is_single_block (Z : ZZ w K mg base) : ∃ fd, Fun K d_is_single_block.name d_is_single_block.qual d_is_single_block.st (d_is_single_block.at_ K) fd ∧ FnOk PR w K mg base (L2.CX PR w) 5 (d_is_single_block.at_ K) fd [("thing" : Str), ("many" : Str), ("span" : Str), ("size" : Str)] (spM (cstOf K) 4 m_is_single_block) ∧ Binds K fd [("thing" : Str), ("many" : Str), ("span" : Str), ("size" : Str)] [] := by
  obtain ⟨fd, F⟩ := (Z.fn 22 d_is_single_block rfl).fun_ rfl
  exact ⟨fd, F, ok_is_single_block Z.tx (c_is_row Z) (c_is_end Z) F, F.binds fun _ _ _ _ _ _ us hl => match us, hl with | [_, _, _, _], _ => rfl⟩
theorem c_is_single_block (Z : ZZ w K mg base) : Cal PR w K mg base (cstOf K) "is_single_block" 5 4 m_is_single_block := by
  obtain ⟨fd, F, o, b⟩ := f_is_single_block Z
  exact Z.cal (Z.glo 18) (Z.fn 22 d_is_single_block rfl) o b
theorem f_definitions_of (Z : ZZ w K mg base) : ∃ fd, Fun K d_definitions_of.name d_definitions_of.qual d_definitions_of.st (d_definitions_of.at_ K) fd ∧ FnOk PR w K mg base (L2.CX PR w) 4 (d_definitions_of.at_ K) fd [("handed" : Str), ("blocks" : Str)] (spM (cstOf K) 2 m_definitions_of) ∧ Binds K fd [("handed" : Str), ("blocks" : Str)] [] := by
  obtain ⟨fd, F⟩ := (Z.fn 23 d_definitions_of rfl).fun_ rfl
  exact ⟨fd, F, ok_definitions_of Z.tx (c_defined_by Z) F, F.binds fun _ _ _ _ _ _ us hl => match us, hl with | [_, _], _ => rfl⟩
theorem c_definitions_of (Z : ZZ w K mg base) : Cal PR w K mg base (cstOf K) "definitions_of" 4 2 m_definitions_of := by
  obtain ⟨fd, F, o, b⟩ := f_definitions_of Z
  exact Z.cal (Z.glo 19) (Z.fn 23 d_definitions_of rfl) o b
theorem f_are_joined (Z : ZZ w K mg base) : ∃ fd, Fun K d_are_joined.name d_are_joined.qual d_are_joined.st (d_are_joined.at_ K) fd ∧ FnOk PR w K mg base (L2.CX PR w) 9 (d_are_joined.at_ K) fd [("blocks" : Str)] (spM (cstOf K) 1 m_are_joined) ∧ Binds K fd [("blocks" : Str)] [] := by
  obtain ⟨fd, F⟩ := (Z.fn 24 d_are_joined rfl).fun_ rfl
  exact ⟨fd, F, ok_are_joined Z.tx (k_Blocks Z) (h_Blocks_edges_into Z) F, F.binds fun _ _ _ _ _ _ us hl => match us, hl with | [_], _ => rfl⟩
theorem c_are_joined (Z : ZZ w K mg base) : Cal PR w K mg base (cstOf K) "are_joined" 9 1 m_are_joined := by
  obtain ⟨fd, F, o, b⟩ := f_are_joined Z
  exact Z.cal (Z.glo 20) (Z.fn 24 d_are_joined rfl) o b
theorem f_at_end (Z : ZZ w K mg base) : ∃ fd, Fun K d_at_end.name d_at_end.qual d_at_end.st (d_at_end.at_ K) fd ∧ FnOk PR w K mg base (L2.CX PR w) 4 (d_at_end.at_ K) fd [("known" : Str), ("block" : Str)] (spM (cstOf K) 2 m_at_end) ∧ Binds K fd [("known" : Str), ("block" : Str)] [] := by
  obtain ⟨fd, F⟩ := (Z.fn 26 d_at_end rfl).fun_ rfl
  exact ⟨fd, F, ok_at_end Z.tx (c_defined_by Z) F, F.binds fun _ _ _ _ _ _ us hl => match us, hl with | [_, _], _ => rfl⟩
theorem c_at_end (Z : ZZ w K mg base) : Cal PR w K mg base (cstOf K) "at_end" 4 2 m_at_end := by
  obtain ⟨fd, F, o, b⟩ := f_at_end Z
  exact Z.cal (Z.glo 22) (Z.fn 26 d_at_end rfl) o b
theorem f_known_behind (Z : ZZ w K mg base) : ∃ fd, Fun K d_known_behind.name d_known_behind.qual d_known_behind.st (d_known_behind.at_ K) fd ∧ FnOk PR w K mg base (L2.CX PR w) 9 (d_known_behind.at_ K) fd [("handed" : Str), ("blocks" : Str)] (spM (cstOf K) 2 m_known_behind) ∧ Binds K fd [("handed" : Str), ("blocks" : Str)] [] := by
  obtain ⟨fd, F⟩ := (Z.fn 25 d_known_behind rfl).fun_ rfl
  exact ⟨fd, F, ok_known_behind Z.tx (c_definitions_of Z) (k_Blocks Z) (h_Blocks_edges_into Z) (c_at_end Z) F, F.binds fun _ _ _ _ _ _ us hl => match us, hl with | [_, _], _ => rfl⟩
theorem c_known_behind (Z : ZZ w K mg base) : Cal PR w K mg base (cstOf K) "known_behind" 9 2 m_known_behind := by
  obtain ⟨fd, F, o, b⟩ := f_known_behind Z
  exact Z.cal (Z.glo 21) (Z.fn 25 d_known_behind rfl) o b
theorem f_are_strict (Z : ZZ w K mg base) : ∃ fd, Fun K d_are_strict.name d_are_strict.qual d_are_strict.st (d_are_strict.at_ K) fd ∧ FnOk PR w K mg base (L2.CX PR w) 10 (d_are_strict.at_ K) fd [("handed" : Str), ("blocks" : Str)] (spM (cstOf K) 2 m_are_strict) ∧ Binds K fd [("handed" : Str), ("blocks" : Str)] [] := by
  obtain ⟨fd, F⟩ := (Z.fn 27 d_are_strict rfl).fun_ rfl
  exact ⟨fd, F, ok_are_strict Z.tx (k_Blocks Z) (c_known_behind Z) (c_used_by Z) (c_defined_by Z) F, F.binds fun _ _ _ _ _ _ us hl => match us, hl with | [_, _], _ => rfl⟩
theorem c_are_strict (Z : ZZ w K mg base) : Cal PR w K mg base (cstOf K) "are_strict" 10 2 m_are_strict := by
  obtain ⟨fd, F, o, b⟩ := f_are_strict Z
  exact Z.cal (Z.glo 23) (Z.fn 27 d_are_strict rfl) o b
theorem f_Single___init__ (Z : ZZ w K mg base) : ∃ fd, SupZ K mg d_Single___init__ (kc K 38) [("span", .int 4)] fd ∧ FnOk PR w K mg base (L2.CX PR w) 11 (d_Single___init__.at_ K) fd [("self" : Str), ("many" : Str), ("handed" : Str), ("blocks" : Str), ("span" : Str)] (spM (cstOf K) 5 m_Single___init__) := by
  obtain ⟨h1, h⟩ := ba Z.xx.a13
  obtain ⟨h2, h⟩ := ba h
  obtain ⟨h3, h4⟩ := ba h
  obtain ⟨fd, S⟩ := supZ_of (Z.fn 28 d_Single___init__ rfl) h2 (Z.free 14)
  have SM : SupT PR w K mg base (cstOf K) (kc K 38) "__init__" [38] 3 2 m_Blocks___init__ := by
    obtain ⟨fd, F, o, b⟩ := f_Blocks___init__ Z
    exact supT_of h4 (raw0 o b)
  exact ⟨fd, S, ok_Single___init__ Z.tx (c_is_integer Z) (c_is_single_block Z) (c_are_reached Z) (c_definitions_of Z) (c_are_joined Z) (c_are_strict Z) S.s SM S.f⟩
theorem k_Single (Z : ZZ w K mg base) : MkT PR w K mg base (cstOf K) "Single" 38 11 5 m_Single___init__ [.int 4] := by
  obtain ⟨fd, S, o⟩ := f_Single___init__ Z
  obtain ⟨ds, v, b⟩ := FunS.binds0 (ps := [("self" : Str), ("many" : Str), ("handed" : Str), ("blocks" : Str), ("span" : Str)]) S.f 4 (by decide) rfl fun Dk doc pm an ct us ks h1 h2 => match us, h1, ks, h2 with
    | [_, _, _, _], _, [_], _ => ⟨_, _, _, _, _, _, rfl, rfl, rfl⟩
  exact ⟨⟨_, fd, _, _, ds, Z.mkr 2, rfl, o, Z.glo 24, b, v, fun ρ => .cons (.int 4) .nil⟩⟩
theorem kk_Single (Z : ZZ w K mg base) : MkK PR w K mg base (cstOf K) "Single" 38 11 3 ["span"] m_Single___init__ := by
  obtain ⟨fd, S, o⟩ := f_Single___init__ Z
  exact ⟨⟨_, fd, [("self" : Str), ("many" : Str), ("handed" : Str), ("blocks" : Str), ("span" : Str)], Z.mkr 2, o, Z.glo 24, FunS.kbinds S.f 4 _ fun kV doc pm an ct us ws h1 h2 => match us, h1, ws, h2 with
    | [_, _, _, _], _, [_], _ => rfl⟩⟩
theorem f_Single_parts (Z : ZZ w K mg base) : ∃ fd, Fun K d_Single_parts.name d_Single_parts.qual d_Single_parts.st (d_Single_parts.at_ K) fd ∧ FnOk PR w K mg base (L2.CX PR w) 3 (d_Single_parts.at_ K) fd [("self" : Str)] (spM (cstOf K) 1 m_Single_parts) ∧ Binds K fd [("self" : Str)] [] := by
  obtain ⟨fd, F⟩ := (Z.fn 30 d_Single_parts rfl).fun_ rfl
  exact ⟨fd, F, ok_Single_parts Z.tx  F, F.binds fun _ _ _ _ _ _ us hl => match us, hl with | [_], _ => rfl⟩
theorem h_Single_parts (Z : ZZ w K mg base) : MethT PR w K mg base (cstOf K) "parts" [38] 3 1 m_Single_parts := by
  obtain ⟨fd, F, o, b⟩ := f_Single_parts Z
  exact Z.meth 6 o b
theorem f_Single___eq__ (Z : ZZ w K mg base) : ∃ fd, Fun K d_Single___eq__.name d_Single___eq__.qual d_Single___eq__.st (d_Single___eq__.at_ K) fd ∧ FnOk PR w K mg base (L2.CX PR w) 4 (d_Single___eq__.at_ K) fd [("self" : Str), ("other" : Str)] (spM (cstOf K) 2 m_Single___eq__) ∧ Binds K fd [("self" : Str), ("other" : Str)] [] := by
  obtain ⟨fd, F⟩ := (Z.fn 29 d_Single___eq__ rfl).fun_ rfl
  exact ⟨fd, F, ok_Single___eq__ Z.tx (h_Single_parts Z) F, F.binds fun _ _ _ _ _ _ us hl => match us, hl with | [_, _], _ => rfl⟩
theorem q_Single (Z : ZZ w K mg base) : OwnG PR w K mg base (cstOf K) "__eq__" [38] 4 2 m_Single___eq__ := by
  obtain ⟨fd, F, o, b⟩ := f_Single___eq__ Z
  exact Z.own 2 (Z.fn 29 d_Single___eq__ rfl) o b
theorem f_check_single (Z : ZZ w K mg base) : ∃ fd, Fun K d_check_single.name d_check_single.qual d_check_single.st (d_check_single.at_ K) fd ∧ FnOk PR w K mg base (L2.CX PR w) 3 (d_check_single.at_ K) fd [("single" : Str)] (spM (cstOf K) 1 m_check_single) ∧ Binds K fd [("single" : Str)] [] := by
  obtain ⟨fd, F⟩ := (Z.fn 31 d_check_single rfl).fun_ rfl
  exact ⟨fd, F, ok_check_single Z.tx  F, F.binds fun _ _ _ _ _ _ us hl => match us, hl with | [_], _ => rfl⟩
theorem c_check_single (Z : ZZ w K mg base) : Cal PR w K mg base (cstOf K) "check_single" 3 1 m_check_single := by
  obtain ⟨fd, F, o, b⟩ := f_check_single Z
  exact Z.cal (Z.glo 25) (Z.fn 31 d_check_single rfl) o b
theorem f_Desk___init__ (Z : ZZ w K mg base) : ∃ fd, Fun K d_Desk___init__.name d_Desk___init__.qual d_Desk___init__.st (d_Desk___init__.at_ K) fd ∧ FnOk PR w K mg base (L2.CX PR w) 4 (d_Desk___init__.at_ K) fd [("self" : Str), ("program" : Str)] (spM (cstOf K) 2 m_Desk___init__) ∧ Binds K fd [("self" : Str), ("program" : Str)] [] := by
  obtain ⟨fd, F⟩ := (Z.fn 32 d_Desk___init__ rfl).fun_ rfl
  exact ⟨fd, F, ok_Desk___init__ Z.tx (c_check_program Z) F, F.binds fun _ _ _ _ _ _ us hl => match us, hl with | [_, _], _ => rfl⟩
theorem k_Desk (Z : ZZ w K mg base) : MkT PR w K mg base (cstOf K) "Desk" 41 4 2 m_Desk___init__ [] := by
  obtain ⟨fd, F, o, b⟩ := f_Desk___init__ Z
  exact Z.mk0 3 (Z.glo 26) o b
theorem f_Desk_now (Z : ZZ w K mg base) : ∃ fd, Fun K d_Desk_now.name d_Desk_now.qual d_Desk_now.st (d_Desk_now.at_ K) fd ∧ FnOk PR w K mg base (L2.CX PR w) 3 (d_Desk_now.at_ K) fd [("self" : Str)] (spM (cstOf K) 1 m_now) ∧ Binds K fd [("self" : Str)] [] := by
  obtain ⟨fd, F⟩ := (Z.fn 33 d_Desk_now rfl).fun_ rfl
  exact ⟨fd, F, ok_Desk_now Z.tx  F, F.binds fun _ _ _ _ _ _ us hl => match us, hl with | [_], _ => rfl⟩
theorem p_now (Z : ZZ w K mg base) : PropT PR w K mg base (cstOf K) "now" [41] 3 m_now := by
  obtain ⟨fd, F, o, b⟩ := f_Desk_now Z
  exact Z.prop 0 o b
theorem f_Desk_journal (Z : ZZ w K mg base) : ∃ fd, Fun K d_Desk_journal.name d_Desk_journal.qual d_Desk_journal.st (d_Desk_journal.at_ K) fd ∧ FnOk PR w K mg base (L2.CX PR w) 3 (d_Desk_journal.at_ K) fd [("self" : Str)] (spM (cstOf K) 1 m_journal) ∧ Binds K fd [("self" : Str)] [] := by
  obtain ⟨fd, F⟩ := (Z.fn 34 d_Desk_journal rfl).fun_ rfl
  exact ⟨fd, F, ok_Desk_journal Z.tx  F, F.binds fun _ _ _ _ _ _ us hl => match us, hl with | [_], _ => rfl⟩
theorem p_journal (Z : ZZ w K mg base) : PropT PR w K mg base (cstOf K) "journal" [41] 3 m_journal := by
  obtain ⟨fd, F, o, b⟩ := f_Desk_journal Z
  exact Z.prop 1 o b
theorem f_Desk___len__ (Z : ZZ w K mg base) : ∃ fd, Fun K d_Desk___len__.name d_Desk___len__.qual d_Desk___len__.st (d_Desk___len__.at_ K) fd ∧ FnOk PR w K mg base (L2.CX PR w) 3 (d_Desk___len__.at_ K) fd [("self" : Str)] (spM (cstOf K) 1 m_Desk___len__) ∧ Binds K fd [("self" : Str)] [] := by
  obtain ⟨fd, F⟩ := (Z.fn 35 d_Desk___len__ rfl).fun_ rfl
  exact ⟨fd, F, ok_Desk___len__ Z.tx  F, F.binds fun _ _ _ _ _ _ us hl => match us, hl with | [_], _ => rfl⟩
theorem l_Desk (Z : ZZ w K mg base) : OwnG PR w K mg base (cstOf K) "__len__" [41] 3 1 m_Desk___len__ := by
  obtain ⟨fd, F, o, b⟩ := f_Desk___len__ Z
  exact Z.own 3 (Z.fn 35 d_Desk___len__ rfl) o b
theorem f_Desk_changed (Z : ZZ w K mg base) : ∃ fd, Fun K d_Desk_changed.name d_Desk_changed.qual d_Desk_changed.st (d_Desk_changed.at_ K) fd ∧ FnOk PR w K mg base (L2.CX PR w) 9 (d_Desk_changed.at_ K) fd [("self" : Str), ("note" : Str), ("block" : Str), ("pair" : Str)] (spM (cstOf K) 4 m_Desk_changed) ∧ Binds K fd [("self" : Str), ("note" : Str), ("block" : Str), ("pair" : Str)] [] := by
  obtain ⟨fd, F⟩ := (Z.fn 36 d_Desk_changed rfl).fun_ rfl
  exact ⟨fd, F, ok_Desk_changed Z.tx (p_now Z) (h_Program_with_blocks Z) F, F.binds fun _ _ _ _ _ _ us hl => match us, hl with | [_, _, _, _], _ => rfl⟩
theorem h_Desk_changed (Z : ZZ w K mg base) : MethT PR w K mg base (cstOf K) "changed" [41] 9 4 m_Desk_changed := by
  obtain ⟨fd, F, o, b⟩ := f_Desk_changed Z
  exact Z.meth 7 o b
theorem f_Desk_put_row (Z : ZZ w K mg base) : ∃ fd, Fun K d_Desk_put_row.name d_Desk_put_row.qual d_Desk_put_row.st (d_Desk_put_row.at_ K) fd ∧ FnOk PR w K mg base (L2.CX PR w) 10 (d_Desk_put_row.at_ K) fd [("self" : Str), ("block" : Str), ("at" : Str), ("row" : Str)] (spM (cstOf K) 4 m_Desk_put_row) ∧ Binds K fd [("self" : Str), ("block" : Str), ("at" : Str), ("row" : Str)] [] := by
  obtain ⟨fd, F⟩ := (Z.fn 37 d_Desk_put_row rfl).fun_ rfl
  exact ⟨fd, F, ok_Desk_put_row Z.tx (h_Blocks_rows Z) (p_now Z) (c_is_integer Z) (h_Desk_changed Z) (h_Blocks_end Z) F, F.binds fun _ _ _ _ _ _ us hl => match us, hl with | [_, _, _, _], _ => rfl⟩
theorem h_Desk_put_row (Z : ZZ w K mg base) : MethT PR w K mg base (cstOf K) "put_row" [41] 10 4 m_Desk_put_row := by
  obtain ⟨fd, F, o, b⟩ := f_Desk_put_row Z
  exact Z.meth 8 o b
theorem f_Desk_take_row (Z : ZZ w K mg base) : ∃ fd, Fun K d_Desk_take_row.name d_Desk_take_row.qual d_Desk_take_row.st (d_Desk_take_row.at_ K) fd ∧ FnOk PR w K mg base (L2.CX PR w) 10 (d_Desk_take_row.at_ K) fd [("self" : Str), ("block" : Str), ("at" : Str)] (spM (cstOf K) 3 m_Desk_take_row) ∧ Binds K fd [("self" : Str), ("block" : Str), ("at" : Str)] [] := by
  obtain ⟨fd, F⟩ := (Z.fn 38 d_Desk_take_row rfl).fun_ rfl
  exact ⟨fd, F, ok_Desk_take_row Z.tx (h_Blocks_rows Z) (p_now Z) (c_is_integer Z) (h_Desk_changed Z) (h_Blocks_end Z) F, F.binds fun _ _ _ _ _ _ us hl => match us, hl with | [_, _, _], _ => rfl⟩
theorem h_Desk_take_row (Z : ZZ w K mg base) : MethT PR w K mg base (cstOf K) "take_row" [41] 10 3 m_Desk_take_row := by
  obtain ⟨fd, F, o, b⟩ := f_Desk_take_row Z
  exact Z.meth 9 o b
theorem f_Desk_turn_end (Z : ZZ w K mg base) : ∃ fd, Fun K d_Desk_turn_end.name d_Desk_turn_end.qual d_Desk_turn_end.st (d_Desk_turn_end.at_ K) fd ∧ FnOk PR w K mg base (L2.CX PR w) 10 (d_Desk_turn_end.at_ K) fd [("self" : Str), ("block" : Str), ("end" : Str)] (spM (cstOf K) 3 m_Desk_turn_end) ∧ Binds K fd [("self" : Str), ("block" : Str), ("end" : Str)] [] := by
  obtain ⟨fd, F⟩ := (Z.fn 39 d_Desk_turn_end rfl).fun_ rfl
  exact ⟨fd, F, ok_Desk_turn_end Z.tx (h_Desk_changed Z) (h_Blocks_rows Z) (p_now Z) F, F.binds fun _ _ _ _ _ _ us hl => match us, hl with | [_, _, _], _ => rfl⟩
theorem h_Desk_turn_end (Z : ZZ w K mg base) : MethT PR w K mg base (cstOf K) "turn_end" [41] 10 3 m_Desk_turn_end := by
  obtain ⟨fd, F, o, b⟩ := f_Desk_turn_end Z
  exact Z.meth 10 o b
theorem f_Desk_undo (Z : ZZ w K mg base) : ∃ fd, Fun K d_Desk_undo.name d_Desk_undo.qual d_Desk_undo.st (d_Desk_undo.at_ K) fd ∧ FnOk PR w K mg base (L2.CX PR w) 3 (d_Desk_undo.at_ K) fd [("self" : Str)] (spM (cstOf K) 1 m_Desk_undo) ∧ Binds K fd [("self" : Str)] [] := by
  obtain ⟨fd, F⟩ := (Z.fn 40 d_Desk_undo rfl).fun_ rfl
  exact ⟨fd, F, ok_Desk_undo Z.tx  F, F.binds fun _ _ _ _ _ _ us hl => match us, hl with | [_], _ => rfl⟩
theorem h_Desk_undo (Z : ZZ w K mg base) : MethT PR w K mg base (cstOf K) "undo" [41] 3 1 m_Desk_undo := by
  obtain ⟨fd, F, o, b⟩ := f_Desk_undo Z
  exact Z.meth 11 o b
theorem f_Desk_branch (Z : ZZ w K mg base) : ∃ fd, Fun K d_Desk_branch.name d_Desk_branch.qual d_Desk_branch.st (d_Desk_branch.at_ K) fd ∧ FnOk PR w K mg base (L2.CX PR w) 6 (d_Desk_branch.at_ K) fd [("self" : Str)] (spM (cstOf K) 1 m_Desk_branch) ∧ Binds K fd [("self" : Str)] [] := by
  obtain ⟨fd, F⟩ := (Z.fn 41 d_Desk_branch rfl).fun_ rfl
  exact ⟨fd, F, ok_Desk_branch Z.tx (p_now Z) (k_Desk Z) F, F.binds fun _ _ _ _ _ _ us hl => match us, hl with | [_], _ => rfl⟩
theorem h_Desk_branch (Z : ZZ w K mg base) : MethT PR w K mg base (cstOf K) "branch" [41] 6 1 m_Desk_branch := by
  obtain ⟨fd, F, o, b⟩ := f_Desk_branch Z
  exact Z.meth 12 o b
theorem f_Trial___init__ (Z : ZZ w K mg base) : ∃ fd, Fun K d_Trial___init__.name d_Trial___init__.qual d_Trial___init__.st (d_Trial___init__.at_ K) fd ∧ FnOk PR w K mg base (L2.CX PR w) 3 (d_Trial___init__.at_ K) fd [("self" : Str), ("desk" : Str)] (spM (cstOf K) 2 m_Trial___init__) ∧ Binds K fd [("self" : Str), ("desk" : Str)] [] := by
  obtain ⟨fd, F⟩ := (Z.fn 44 d_Trial___init__ rfl).fun_ rfl
  exact ⟨fd, F, ok_Trial___init__ Z.tx  F, F.binds fun _ _ _ _ _ _ us hl => match us, hl with | [_, _], _ => rfl⟩
theorem k_Trial (Z : ZZ w K mg base) : MkT PR w K mg base (cstOf K) "Trial" 42 3 2 m_Trial___init__ [] := by
  obtain ⟨fd, F, o, b⟩ := f_Trial___init__ Z
  exact Z.mk0 4 (Z.glo 27) o b
theorem f_Desk_trial (Z : ZZ w K mg base) : ∃ fd, Fun K d_Desk_trial.name d_Desk_trial.qual d_Desk_trial.st (d_Desk_trial.at_ K) fd ∧ FnOk PR w K mg base (L2.CX PR w) 5 (d_Desk_trial.at_ K) fd [("self" : Str)] (spM (cstOf K) 1 m_Desk_trial) ∧ Binds K fd [("self" : Str)] [] := by
  obtain ⟨fd, F⟩ := (Z.fn 42 d_Desk_trial rfl).fun_ rfl
  exact ⟨fd, F, ok_Desk_trial Z.tx (k_Trial Z) F, F.binds fun _ _ _ _ _ _ us hl => match us, hl with | [_], _ => rfl⟩
theorem h_Desk_trial (Z : ZZ w K mg base) : MethT PR w K mg base (cstOf K) "trial" [41] 5 1 m_Desk_trial := by
  obtain ⟨fd, F, o, b⟩ := f_Desk_trial Z
  exact Z.meth 13 o b
theorem f_Trial___enter__ (Z : ZZ w K mg base) : ∃ fd, Fun K d_Trial___enter__.name d_Trial___enter__.qual d_Trial___enter__.st (d_Trial___enter__.at_ K) fd ∧ FnOk PR w K mg base (L2.CX PR w) 3 (d_Trial___enter__.at_ K) fd [("self" : Str)] (spM (cstOf K) 1 m_Trial___enter__) ∧ Binds K fd [("self" : Str)] [] := by
  obtain ⟨fd, F⟩ := (Z.fn 45 d_Trial___enter__ rfl).fun_ rfl
  exact ⟨fd, F, ok_Trial___enter__ Z.tx  F, F.binds fun _ _ _ _ _ _ us hl => match us, hl with | [_], _ => rfl⟩
theorem h_Trial___enter__ (Z : ZZ w K mg base) : MethT PR w K mg base (cstOf K) "__enter__" [42] 3 1 m_Trial___enter__ := by
  obtain ⟨fd, F, o, b⟩ := f_Trial___enter__ Z
  exact Z.meth 15 o b
theorem f_Trial___exit__ (Z : ZZ w K mg base) : ∃ fd, Fun K d_Trial___exit__.name d_Trial___exit__.qual d_Trial___exit__.st (d_Trial___exit__.at_ K) fd ∧ FnOk PR w K mg base (L2.CX PR w) 3 (d_Trial___exit__.at_ K) fd [("self" : Str), ("kind" : Str), ("error" : Str), ("trace" : Str)] (spM (cstOf K) 4 m_Trial___exit__) ∧ Binds K fd [("self" : Str), ("kind" : Str), ("error" : Str), ("trace" : Str)] [] := by
  obtain ⟨fd, F⟩ := (Z.fn 46 d_Trial___exit__ rfl).fun_ rfl
  exact ⟨fd, F, ok_Trial___exit__ Z.tx  F, F.binds fun _ _ _ _ _ _ us hl => match us, hl with | [_, _, _, _], _ => rfl⟩
theorem h_Trial___exit__ (Z : ZZ w K mg base) : MethT PR w K mg base (cstOf K) "__exit__" [42] 3 4 m_Trial___exit__ := by
  obtain ⟨fd, F, o, b⟩ := f_Trial___exit__ Z
  exact Z.meth 16 o b
theorem f_lines_of (Z : ZZ w K mg base) : ∃ fd, Fun K d_lines_of.name d_lines_of.qual d_lines_of.st (d_lines_of.at_ K) fd ∧ FnOk PR w K mg base (L2.CX PR w) 3 (d_lines_of.at_ K) fd [("text" : Str)] (spM (cstOf K) 1 m_lines_of) ∧ Binds K fd [("text" : Str)] [] := by
  obtain ⟨fd, F⟩ := (Z.fn 47 d_lines_of rfl).fun_ rfl
  exact ⟨fd, F, ok_lines_of Z.tx  F, F.binds fun _ _ _ _ _ _ us hl => match us, hl with | [_], _ => rfl⟩
theorem c_lines_of (Z : ZZ w K mg base) : Cal PR w K mg base (cstOf K) "lines_of" 3 1 m_lines_of := by
  obtain ⟨fd, F, o, b⟩ := f_lines_of Z
  exact Z.cal (Z.glo 28) (Z.fn 47 d_lines_of rfl) o b
theorem f_number_in (Z : ZZ w K mg base) : ∃ fd, Fun K d_number_in.name d_number_in.qual d_number_in.st (d_number_in.at_ K) fd ∧ FnOk PR w K mg base (L2.CX PR w) 3 (d_number_in.at_ K) fd [("word" : Str), ("least" : Str), ("most" : Str)] (spM (cstOf K) 3 m_number_in) ∧ Binds K fd [("word" : Str), ("least" : Str), ("most" : Str)] [] := by
  obtain ⟨fd, F⟩ := (Z.fn 48 d_number_in rfl).fun_ rfl
  exact ⟨fd, F, ok_number_in Z.tx  F, F.binds fun _ _ _ _ _ _ us hl => match us, hl with | [_, _, _], _ => rfl⟩
theorem c_number_in (Z : ZZ w K mg base) : Cal PR w K mg base (cstOf K) "number_in" 3 3 m_number_in := by
  obtain ⟨fd, F, o, b⟩ := f_number_in Z
  exact Z.cal (Z.glo 29) (Z.fn 48 d_number_in rfl) o b
theorem f_headed (Z : ZZ w K mg base) : ∃ fd, Fun K d_headed.name d_headed.qual d_headed.st (d_headed.at_ K) fd ∧ FnOk PR w K mg base (L2.CX PR w) 4 (d_headed.at_ K) fd [("line" : Str), ("head" : Str), ("row" : Str), ("least" : Str), ("most" : Str)] (spM (cstOf K) 5 m_headed) ∧ Binds K fd [("line" : Str), ("head" : Str), ("row" : Str), ("least" : Str), ("most" : Str)] [] := by
  obtain ⟨fd, F⟩ := (Z.fn 49 d_headed rfl).fun_ rfl
  exact ⟨fd, F, ok_headed Z.tx (c_number_in Z) F, F.binds fun _ _ _ _ _ _ us hl => match us, hl with | [_, _, _, _, _], _ => rfl⟩
theorem c_headed (Z : ZZ w K mg base) : Cal PR w K mg base (cstOf K) "headed" 4 5 m_headed := by
  obtain ⟨fd, F, o, b⟩ := f_headed Z
  exact Z.cal (Z.glo 30) (Z.fn 49 d_headed rfl) o b
theorem f_row_in (Z : ZZ w K mg base) : ∃ fd, Fun K d_row_in.name d_row_in.qual d_row_in.st (d_row_in.at_ K) fd ∧ FnOk PR w K mg base (L2.CX PR w) 4 (d_row_in.at_ K) fd [("line" : Str), ("many" : Str), ("span" : Str)] (spM (cstOf K) 3 m_row_in) ∧ Binds K fd [("line" : Str), ("many" : Str), ("span" : Str)] [] := by
  obtain ⟨fd, F⟩ := (Z.fn 50 d_row_in rfl).fun_ rfl
  exact ⟨fd, F, ok_row_in Z.tx (c_number_in Z) F, F.binds fun _ _ _ _ _ _ us hl => match us, hl with | [_, _, _], _ => rfl⟩
theorem c_row_in (Z : ZZ w K mg base) : Cal PR w K mg base (cstOf K) "row_in" 4 3 m_row_in := by
  obtain ⟨fd, F, o, b⟩ := f_row_in Z
  exact Z.cal (Z.glo 31) (Z.fn 50 d_row_in rfl) o b
theorem f_end_in (Z : ZZ w K mg base) : ∃ fd, Fun K d_end_in.name d_end_in.qual d_end_in.st (d_end_in.at_ K) fd ∧ FnOk PR w K mg base (L2.CX PR w) 4 (d_end_in.at_ K) fd [("line" : Str), ("many" : Str)] (spM (cstOf K) 2 m_end_in) ∧ Binds K fd [("line" : Str), ("many" : Str)] [] := by
  obtain ⟨fd, F⟩ := (Z.fn 51 d_end_in rfl).fun_ rfl
  exact ⟨fd, F, ok_end_in Z.tx (c_number_in Z) F, F.binds fun _ _ _ _ _ _ us hl => match us, hl with | [_, _], _ => rfl⟩
theorem c_end_in (Z : ZZ w K mg base) : Cal PR w K mg base (cstOf K) "end_in" 4 2 m_end_in := by
  obtain ⟨fd, F, o, b⟩ := f_end_in Z
  exact Z.cal (Z.glo 32) (Z.fn 51 d_end_in rfl) o b
theorem f_join_in (Z : ZZ w K mg base) : ∃ fd, Fun K d_join_in.name d_join_in.qual d_join_in.st (d_join_in.at_ K) fd ∧ FnOk PR w K mg base (L2.CX PR w) 4 (d_join_in.at_ K) fd [("line" : Str), ("many" : Str)] (spM (cstOf K) 2 m_join_in) ∧ Binds K fd [("line" : Str), ("many" : Str)] [] := by
  obtain ⟨fd, F⟩ := (Z.fn 52 d_join_in rfl).fun_ rfl
  exact ⟨fd, F, ok_join_in Z.tx (c_number_in Z) F, F.binds fun _ _ _ _ _ _ us hl => match us, hl with | [_, _], _ => rfl⟩
theorem c_join_in (Z : ZZ w K mg base) : Cal PR w K mg base (cstOf K) "join_in" 4 2 m_join_in := by
  obtain ⟨fd, F, o, b⟩ := f_join_in Z
  exact Z.cal (Z.glo 33) (Z.fn 52 d_join_in rfl) o b
theorem f_block_at (Z : ZZ w K mg base) : ∃ fd, Fun K d_block_at.name d_block_at.qual d_block_at.st (d_block_at.at_ K) fd ∧ FnOk PR w K mg base (L2.CX PR w) 5 (d_block_at.at_ K) fd [("lines" : Str), ("row" : Str), ("many" : Str), ("span" : Str), ("is_single" : Str)] (spM (cstOf K) 5 m_block_at) ∧ Binds K fd [("lines" : Str), ("row" : Str), ("many" : Str), ("span" : Str), ("is_single" : Str)] [] := by
  obtain ⟨fd, F⟩ := (Z.fn 53 d_block_at rfl).fun_ rfl
  exact ⟨fd, F, ok_block_at Z.tx (c_join_in Z) (c_row_in Z) (c_end_in Z) F, F.binds fun _ _ _ _ _ _ us hl => match us, hl with | [_, _, _, _, _], _ => rfl⟩
theorem c_block_at (Z : ZZ w K mg base) : Cal PR w K mg base (cstOf K) "block_at" 5 5 m_block_at := by
  obtain ⟨fd, F, o, b⟩ := f_block_at Z
  exact Z.cal (Z.glo 34) (Z.fn 53 d_block_at rfl) o b
theorem f_blocks_at (Z : ZZ w K mg base) : ∃ fd, Fun K d_blocks_at.name d_blocks_at.qual d_blocks_at.st (d_blocks_at.at_ K) fd ∧ FnOk PR w K mg base (L2.CX PR w) 6 (d_blocks_at.at_ K) fd [("lines" : Str), ("row" : Str), ("many" : Str), ("span" : Str), ("is_single" : Str)] (spM (cstOf K) 5 m_blocks_at) ∧ Binds K fd [("lines" : Str), ("row" : Str), ("many" : Str), ("span" : Str), ("is_single" : Str)] [] := by
  obtain ⟨fd, F⟩ := (Z.fn 54 d_blocks_at rfl).fun_ rfl
  exact ⟨fd, F, ok_blocks_at Z.tx (c_block_at Z) F, F.binds fun _ _ _ _ _ _ us hl => match us, hl with | [_, _, _, _, _], _ => rfl⟩
theorem c_blocks_at (Z : ZZ w K mg base) : Cal PR w K mg base (cstOf K) "blocks_at" 6 5 m_blocks_at := by
  obtain ⟨fd, F, o, b⟩ := f_blocks_at Z
  exact Z.cal (Z.glo 35) (Z.fn 54 d_blocks_at rfl) o b
theorem f_body_of (Z : ZZ w K mg base) : ∃ fd, Fun K d_body_of.name d_body_of.qual d_body_of.st (d_body_of.at_ K) fd ∧ FnOk PR w K mg base (L2.CX PR w) 3 (d_body_of.at_ K) fd [("block" : Str)] (spM (cstOf K) 1 m_body_of) ∧ Binds K fd [("block" : Str)] [] := by
  obtain ⟨fd, F⟩ := (Z.fn 55 d_body_of rfl).fun_ rfl
  exact ⟨fd, F, ok_body_of Z.tx  F, F.binds fun _ _ _ _ _ _ us hl => match us, hl with | [_], _ => rfl⟩
theorem c_body_of (Z : ZZ w K mg base) : Cal PR w K mg base (cstOf K) "body_of" 3 1 m_body_of := by
  obtain ⟨fd, F, o, b⟩ := f_body_of Z
  exact Z.cal (Z.glo 36) (Z.fn 55 d_body_of rfl) o b
theorem f_written (Z : ZZ w K mg base) : ∃ fd, Fun K d_written.name d_written.qual d_written.st (d_written.at_ K) fd ∧ FnOk PR w K mg base (L2.CX PR w) 4 (d_written.at_ K) fd [("program" : Str)] (spM (cstOf K) 1 m_written) ∧ Binds K fd [("program" : Str)] [] := by
  obtain ⟨fd, F⟩ := (Z.fn 56 d_written rfl).fun_ rfl
  exact ⟨fd, F, ok_written Z.tx (c_check_program Z) (c_body_of Z) F, F.binds fun _ _ _ _ _ _ us hl => match us, hl with | [_], _ => rfl⟩
theorem c_written (Z : ZZ w K mg base) : Cal PR w K mg base (cstOf K) "written" 4 1 m_written := by
  obtain ⟨fd, F, o, b⟩ := f_written Z
  exact Z.cal (Z.glo 37) (Z.fn 56 d_written rfl) o b
theorem f_read (Z : ZZ w K mg base) : ∃ fd, Fun K d_read.name d_read.qual d_read.st (d_read.at_ K) fd ∧ FnOk PR w K mg base (L2.CX PR w) 8 (d_read.at_ K) fd [("text" : Str)] (spM (cstOf K) 1 m_read) ∧ Binds K fd [("text" : Str)] [] := by
  obtain ⟨fd, F⟩ := (Z.fn 57 d_read rfl).fun_ rfl
  exact ⟨fd, F, ok_read Z.tx (c_lines_of Z) (c_headed Z) (c_blocks_at Z) (kk_Program Z) F, F.binds fun _ _ _ _ _ _ us hl => match us, hl with | [_], _ => rfl⟩
theorem c_read (Z : ZZ w K mg base) : Cal PR w K mg base (cstOf K) "read" 8 1 m_read := by
  obtain ⟨fd, F, o, b⟩ := f_read Z
  exact Z.cal (Z.glo 38) (Z.fn 57 d_read rfl) o b
theorem f_written_single (Z : ZZ w K mg base) : ∃ fd, Fun K d_written_single.name d_written_single.qual d_written_single.st (d_written_single.at_ K) fd ∧ FnOk PR w K mg base (L2.CX PR w) 4 (d_written_single.at_ K) fd [("single" : Str)] (spM (cstOf K) 1 m_written_single) ∧ Binds K fd [("single" : Str)] [] := by
  obtain ⟨fd, F⟩ := (Z.fn 58 d_written_single rfl).fun_ rfl
  exact ⟨fd, F, ok_written_single Z.tx (c_check_single Z) (c_body_of Z) F, F.binds fun _ _ _ _ _ _ us hl => match us, hl with | [_], _ => rfl⟩
theorem c_written_single (Z : ZZ w K mg base) : Cal PR w K mg base (cstOf K) "written_single" 4 1 m_written_single := by
  obtain ⟨fd, F, o, b⟩ := f_written_single Z
  exact Z.cal (Z.glo 39) (Z.fn 58 d_written_single rfl) o b
theorem f_handed_in (Z : ZZ w K mg base) : ∃ fd, Fun K d_handed_in.name d_handed_in.qual d_handed_in.st (d_handed_in.at_ K) fd ∧ FnOk PR w K mg base (L2.CX PR w) 4 (d_handed_in.at_ K) fd [("line" : Str), ("many" : Str), ("row" : Str)] (spM (cstOf K) 3 m_handed_in) ∧ Binds K fd [("line" : Str), ("many" : Str), ("row" : Str)] [] := by
  obtain ⟨fd, F⟩ := (Z.fn 59 d_handed_in rfl).fun_ rfl
  exact ⟨fd, F, ok_handed_in Z.tx (c_number_in Z) F, F.binds fun _ _ _ _ _ _ us hl => match us, hl with | [_, _, _], _ => rfl⟩
theorem c_handed_in (Z : ZZ w K mg base) : Cal PR w K mg base (cstOf K) "handed_in" 4 3 m_handed_in := by
  obtain ⟨fd, F, o, b⟩ := f_handed_in Z
  exact Z.cal (Z.glo 40) (Z.fn 59 d_handed_in rfl) o b
theorem f_read_single (Z : ZZ w K mg base) : ∃ fd, Fun K d_read_single.name d_read_single.qual d_read_single.st (d_read_single.at_ K) fd ∧ FnOk PR w K mg base (L2.CX PR w) 13 (d_read_single.at_ K) fd [("text" : Str)] (spM (cstOf K) 1 m_read_single) ∧ Binds K fd [("text" : Str)] [] := by
  obtain ⟨fd, F⟩ := (Z.fn 60 d_read_single rfl).fun_ rfl
  exact ⟨fd, F, ok_read_single Z.tx (c_lines_of Z) (c_headed Z) (c_handed_in Z) (c_blocks_at Z) (kk_Single Z) F, F.binds fun _ _ _ _ _ _ us hl => match us, hl with | [_], _ => rfl⟩
theorem c_read_single (Z : ZZ w K mg base) : Cal PR w K mg base (cstOf K) "read_single" 13 1 m_read_single := by
  obtain ⟨fd, F, o, b⟩ := f_read_single Z
  exact Z.cal (Z.glo 41) (Z.fn 60 d_read_single rfl) o b
theorem f__law_pair (Z : ZZ w K mg base) : ∃ fd, Fun K d__law_pair.name d__law_pair.qual d__law_pair.st (d__law_pair.at_ K) fd ∧ FnOk PR w K mg base (L2.CX PR w) 13 (d__law_pair.at_ K) fd [] (spM (cstOf K) 0 m__law_pair) ∧ Binds K fd [] [] := by
  obtain ⟨fd, F⟩ := (Z.fn 62 d__law_pair rfl).fun_ rfl
  exact ⟨fd, F, ok__law_pair Z.tx (k_Program Z) (k_Single Z) F, F.binds fun _ _ _ _ _ _ us hl => match us, hl with | [], _ => rfl⟩
theorem c__law_pair (Z : ZZ w K mg base) : Cal PR w K mg base (cstOf K) "_law_pair" 13 0 m__law_pair := by
  obtain ⟨fd, F, o, b⟩ := f__law_pair Z
  exact Z.cal (Z.glo 43) (Z.fn 62 d__law_pair rfl) o b
theorem f__law_texts_right (Z : ZZ w K mg base) : ∃ fd, FnOk PR w K mg base (L2.CX PR w) 16 (d__law_texts_right.at_ K) fd [("_law_plain" : Str), ("_law_single" : Str)] (spM (cstOf K) 2 m__law_texts_right) ∧ Binds K fd [("_law_plain" : Str), ("_law_single" : Str)] [] := by
  obtain ⟨fd, F⟩ := (Z.fn 63 d__law_texts_right rfl).funC rfl
  obtain ⟨fd', F'⟩ := (Z.fn 63 d__law_texts_right rfl).fun_ rfl
  have e : fd' = fd := by
    obtain ⟨_, _, _, _, _, _, _, _, rfl, l1, _⟩ := F.ex
    obtain ⟨_, _, _, _, _, _, _, _, _, rfl, l2, _⟩ := F'.ex
    rw [l1] at l2
    injection l2 with l2
    injection l2 with _ _ l2 _
    injection l2 with l2
    exact l2.symm
  subst e
  exact ⟨_, ok__law_texts_right Z.tx Z.word Z.ne (Z.tab "_law_texts_right" (by simp)) Z.lamT (c_written Z) (k_Desk Z) (c_written_single Z) (c_read Z) (c_read_single Z) (q_Program Z) (q_Single Z) F, F'.binds fun _ _ _ _ _ _ us hl => match us, hl with | [_, _], _ => rfl⟩
theorem c__law_texts_right (Z : ZZ w K mg base) : Cal PR w K mg base (cstOf K) "_law_texts_right" 16 2 m__law_texts_right := by
  obtain ⟨fd, o, b⟩ := f__law_texts_right Z
  exact Z.cal (Z.glo 44) (Z.fn 63 d__law_texts_right rfl) o b
end
end MR
set_option maxHeartbeats 4000000
/-! Mirror 54: with, its body raising; a def called while an exception is handled. -/
namespace MR
open PySem PySem.Spec PySem.Calls PyProof.Rows L2 He LamX
section
variable {prog : Program} {w : World} {A : Around} {E : Value → Shared → Prop} {s : Shared} {env : Env} {K : PySem.W.Frag} {x C fe fx : Addr} {ox : Obj} {od : Option Obj} {pos : Pos}
open PySem.W in
theorem with_core {b : Value → Sem Unit} {bdy : Sem Flow} {Q : Flow → Shared → Prop} {Err : Value → Shared → Prop} (X : K.In s.heap) (I : PySem.W.InstAt s.heap x ox C od) (he : PySem.W.findIn K (.ref C) "__enter__" = some (some (.ref fe))) (hfe : PySem.W.isFn K (.ref fe) = true) (hx : PySem.W.findIn K (.ref C) "__exit__" = some (some (.ref fx))) (hfx : PySem.W.isFn K (.ref fx) = true)
    (h : wpAny (model prog w) A (call (.ref fe) [.ref x]) (fun v s₂ => wpAny (model prog w) A (b v) (fun _ s₃ => wpAny (model prog w) A bdy (fun _ _ => False) Err s₃) (fun _ _ => False) s₂) E s)
    (herr : ∀ e s₄, Err e s₄ → wpAny (model prog w) A (noteFrame e env) (fun _ s₅ => wpAny (model prog w) A (setFlight e none) (fun _ s₆ => ∃ (cls tb : Value), PySem.W.Looks (model prog w) s₆.heap (typeOf e) cls ∧ PySem.W.Looks (model prog w) s₆.heap (tracebackOf e) tb ∧
      wpAny (model prog w) A (PySem.run (.call (.ref fx) ⟨[.ref x, cls, e, tb], []⟩) (some e)) (fun f s₇ => f = Flow.ret (.bool false) ∧ wpAny (model prog w) A (PySem.passOn "with" e env : Sem Flow) Q E s₇) E s₆) E s₅) E s₄) :
    wpAny (model prog w) A (withItem false pos env (pure (.ref x)) (some b) bdy) Q E s := by
  obtain ⟨cd, hcd, ae⟩ := kw_along he
  obtain ⟨cd', hcd', ax⟩ := kw_along hx
  cases hcd.symm.trans hcd'
  obtain ⟨hh, g, d, tt, os⟩ := s
  have L1 : Looks (model prog w) hh (specialOnItsLine (.ref x) "__enter__") (some (.ref fe), cd.mro) := kw_special X I hcd ae
  have L2 : Looks (model prog w) hh (specialOnItsLine (.ref x) "__exit__") (some (.ref fx), cd.mro) := kw_special X I hcd ax
  have L3 : Looks (model prog w) hh (bindSpecial (.ref fe) (.ref x)) (.ref fe, [.ref x]) := bind_fn X _ (beq_iff_eq.mp hfe)
  have L4 : Looks (model prog w) hh (bindSpecial (.ref fx) (.ref x)) (.ref fx, [.ref x]) := bind_fn X _ (beq_iff_eq.mp hfx)
  have L5 : Looks (model prog w) hh (aMethodOfAnotherBuiltinTypeStops (.ref fe) cd.mro) () := Looks.of_pure rfl
  have L6 : Looks (model prog w) hh (aMethodOfAnotherBuiltinTypeStops (.ref fx) cd.mro) () := Looks.of_pure rfl
  unfold withItem
  refine wpAny_bind (wpAny_pure ?_)
  refine wpAny_bind (wpAny_standAt ?_)
  simp only [Bool.false_eq_true, if_false]
  kw_lk
  refine wpAny_mono h (fun v s₂ h₂ => ?_) fun _ _ z => z
  kw_lk
  refine wpAny_attempt (kw_held ?_)
  show wpAny _ _ (b v >>= fun _ => bdy) _ _ _
  refine wpAny_bind (wpAny_mono h₂ (fun _ s₃ h₃ => wpAny_mono h₃ (fun f s₄ h₄ => h₄.elim) fun e s₄ h₄ => ?_) fun _ _ z => z.elim)
  have h5 := herr e s₄ h₄
  refine wpAny_bind (wpAny_mono h5 (fun _ s₅ h₅ => ?_) fun _ _ z => z)
  refine wpAny_bind (wpAny_mono h₅ (fun _ s₆ h₆ => ?_) fun _ _ z => z)
  obtain ⟨cls, tb, k1, k2, k3⟩ := h₆
  refine wpAny_bind (wpAny_standAt ?_)
  refine wpAny_holding ?_
  refine wpAny_bind (k1 A _ E s₆ (fun _ _ q => q) ?_)
  refine wpAny_bind (k2 A _ E s₆ (fun _ _ q => q) ?_)
  unfold withItem.marked
  refine wpAny_bind (wpAny_bind (wpAny_mono k3 (fun f s₇ h7 => ?_) fun _ _ z => z))
  obtain ⟨ef, h7⟩ := h7
  subst ef
  refine wpAny_pure (wpAny_bind (wpAny_pure ?_))
  show wpAny _ _ (do let swallow ← pure false; if swallow = true then do rule "with.exit-swallows"; setFlight e none; pure Flow.next else PySem.passOn "with" e env) _ _ _
  refine wpAny_bind (wpAny_pure ?_)
  rw [if_neg (by decide)]
  exact h7
end
/-! ### a def called while an exception is handled -/
def cxW (CX : CXT) (P : Program) (w : World) (K : PySem.W.Frag) (mg : Str → Option Value) (base : Heap) (N : List Str) (qual : Str) (scope : Scope) (f : Addr) (cd : Value) (A : Around) (outer : List Env) (s : Shared) (H : Hp) (E : XK) : Cx :=
  { cxOf CX P w K mg base N qual scope f cd A outer s H E with calm := false }
section
variable {CX : CXT} {P : Program} {w : World} {K : PySem.W.Frag} {mg : Str → Option Value} {base : Heap} {N ps : List Str} {qual name : Str} {params : Arguments} {body : List Stmt} {scope : Scope} {f : Addr} {cd dV kV doc pm cdv ct oc : Value} {an od : Option Addr} {osl : Array (Option Value)} {A : Around} {outer : List Env} {s s1 : Shared} {H : Hp} {E : XK} {us : List Value} {vs : List V} {k : Nat}
theorem inv_startW (S : FnScope N ps scope) (e0 : Env0 P w K mg base A outer s H) (hl : vs.length = ps.length) (r : Vals vs us)
    (x : InCallC s s.heap.objs.size (bindL (envOfC qual scope s.heap.objs.size f cd).kindOf (ps.zip us) fun _ => none) (cellsFrom (s.heap.objs.size + 1) scope.names []) (bindC (envOfC qual scope s.heap.objs.size f cd).kindOf (ps.zip us) fun _ => none) s1) :
    Inv (cxW CX P w K mg base N qual scope f cd A outer s H E) [] (L2.start N vs) H s1 := by
  -- the same around, nothing handled
  have e1 : Env0 P w K mg base { A with handled := none } outer s H := { e0 with frames := e0.frames }
  have I := inv_start (CX := CX) (E := E) (cd := cd) (f := f) S rfl e1 hl r x
  have k := I.ok
  exact { os := I.os, bare := I.bare, base := I.base, loc := I.loc, cell := I.cell, free := I.free, freeC := I.freeC, pin := I.pin, hok := I.hok, len := I.len
          ok := { mod := k.mod, kind := k.kind, glob := k.glob, blt := k.blt, above := k.above, inj := k.inj, has := k.has, cab := k.cab, hd := fun z => Bool.noConfusion (show false = true from z), frames := Around.frames_deeper e0.frames, stk := k.stk, exf := k.exf, bs := k.bs, bsz := k.bsz, noex := k.noex, exfs := k.exfs, funs := k.funs, frf := k.frf } }
theorem run_ofW (lk : K.lookup f = some ⟨oc, od, .func (PySem.W.fnOf name qual params body scope dV kV doc pm an cdv ct), osl⟩) (hcd : PySem.W.codeIn K cdv qual = true) (S : FnScope N ps scope)
    {args : Args} {Q : VK} (hr : L2H.RoomH (k + 1) A) (e0 : Env0 P w K mg base A outer s H) (hb : BindsTo s (PySem.W.fnOf name qual params body scope dV kV doc pm an cdv ct) args (ps.zip us)) (r : Vals vs us) (hl : vs.length = ps.length)
    (hbody : L2H.RoomH k (A.deeper (envOfC qual scope s.heap.objs.size f cdv)) → ∃ t, PSs (cxW CX P w K mg base N qual scope f cdv A outer s H E) body t ∧ t { nx := fun _ H' => Q .non H', rt := Q } (L2.start N vs) H) :
    codeAny (model P w) A (.call (.ref f) args) (CR CX outer P w H s Q E) s := by
  have KX : K.In s.heap := e0.mod.kin.keeps fun b o e => (e0.bs b o e).1
  have lim : s.heap.NoLimit := e0.mod.nolimit.keeps fun b o e => (e0.bs b o e).1
  have hkind : ∀ y ∈ ps.zip us, scope.names.lookup y.1 = some .local ∨ (scope.names.lookup y.1 = some .cell ∧ ((cellsFrom (s.heap.objs.size + 1) scope.names []).lookup y.1).isSome = true) := fun ⟨n, v⟩ hy => by
    rcases S.par n (List.of_mem_zip hy).1 with q | q
    · exact .inl q
    · exact .inr ⟨q, PySem.W.cellsFrom_some _ _ _ (.inl q)⟩
  refine codeAny_call_function hr.depth (KX _ _ lk) rfl S.co S.gen rfl (PySem.W.codeRec_of KX hcd) (hb _ _ _ _ ?_)
  refine wpAny_newFunctionEnv_cells S.kind hkind fun env he s1 x => ?_
  subst he
  refine ⟨lim.keeps x.toInCall.keep, codeAny_func ?_⟩
  obtain ⟨t, ht, hq⟩ := hbody (hr.deeper _)
  have I : Inv (cxW CX P w K mg base N qual scope f cdv A outer s H E) [] (L2.start N vs) H s1 := inv_startW S e0 hl r x
  refine wpAny_mono (ht.run [] s1 (L2.start N vs) H _ I hq) (fun fl s' hs => ?_) fun e s' hs => hs
  have fin : ∀ {σ' : L2.St} {H' : Hp} {v : V} {u : Value}, Inv (cxW CX P w K mg base N qual scope f cdv A outer s H E) [] σ' H' s' → L2.RelV v u → Q v H' → CE outer P w H s Q u s' :=
    fun {σ' H' v u} J rv q => ⟨v, H', J.os, J.bare, J.base, J.hok, rv, q⟩
  cases fl with
  | ret u =>
    obtain ⟨v, σ', H', J, rv, q⟩ := hs
    exact fin J rv q
  | next =>
    obtain ⟨σ', H', J, q⟩ := hs
    exact fin (v := V.non) (u := Value.none) J rfl q
  | brk =>
    obtain ⟨_, _, _, q⟩ := hs
    exact False.elim q
  | cont =>
    obtain ⟨_, _, _, q⟩ := hs
    exact False.elim q
end
/-- Trial.__exit__, called while an exception is handled -/
theorem exit_body {P : Program} {w : World} {K : PySem.W.Frag} {mg : Str → Option Value} {base : Heap} {C : Cst} {xB xS xT D1 D2 D3 : Nat → Addr} {f : Addr} (T : TX P w K mg base C xB xS xT D1 D2 D3 misS misE) {cdv : Value} {A : Around} {outer : List Env} {s : Shared} {H : Hp} {E : XK} :
    TrSs C E (cxW (L2.CX P w) P w K mg base [("self" : Str), ("kind" : Str), ("error" : Str), ("trace" : Str)] "Trial.__exit__" (defScope st_Trial___exit__) f cdv A outer s H E) (defBody st_Trial___exit__) b_Trial___exit__ :=
  (ss_cons (s_attr T.sPast (e_attr T.sDesk (e_var 0)) (e_attr T.sPast (e_var 0))) (ss_cons (s_attr T.sNotes (e_attr T.sDesk (e_var 0)) (e_attr T.sNotes (e_var 0))) (ss_cons (s_attr T.sFloor (e_attr T.sDesk (e_var 0)) (e_attr T.sFloor (e_var 0))) (ss_one (s_ret e_bl)))))
theorem exit_ok {P : Program} {w : World} {K : PySem.W.Frag} {mg : Str → Option Value} {base : Heap} {C : Cst} {xB xS xT D1 D2 D3 : Nat → Addr} {f : Addr} {fd : FuncData} (T : TX P w K mg base C xB xS xT D1 D2 D3 misS misE) (Fd : Fun K "__exit__" "Trial.__exit__" st_Trial___exit__ f fd) (hb : Binds K fd [("self" : Str), ("kind" : Str), ("error" : Str), ("trace" : Str)] [])
    {A : Around} {outer : List Env} {s : Shared} {H : Hp} {us : List Value} {v1 v2 v3 v4 : V} {Q : Hp → Prop} {ρ : List Addr} {h : LH} {t : LV} {E : XK} (hr : L2H.RoomH 3 A) (e0 : Env0 P w K mg base A outer s H) (r : Vals [v1, v2, v3, v4] us) (R : Rel C ρ h H) (z : RV ρ t v1)
    (o : OkG C EN RV ρ (exitM t h) (fun _ H' => Q H')) :
    codeAny (model P w) A (.call (.ref f) ⟨us, []⟩) (CR (L2.CX P w) outer P w H s (fun v H' => v = .bl false ∧ Q H') EN) s := by
  obtain ⟨oc, od, dV, doc, pm, an, cdv, ct, osl, rfl, lk, hcd⟩ := Fd.ex
  have KX : K.In s.heap := e0.mod.kin.keeps fun b o e => (e0.bs b o e).1
  have hl : us.length = 4 := by rw [← r.length]; rfl
  have b := hb s us KX (by rw [List.append_nil]; exact hl)
  rw [List.append_nil] at b
  refine run_ofW (k := 2) (N := [("self" : Str), ("kind" : Str), ("error" : Str), ("trace" : Str)]) (ps := [("self" : Str), ("kind" : Str), ("error" : Str), ("trace" : Str)]) (vs := [v1, v2, v3, v4]) lk hcd sc_Trial___exit__ hr e0 b r rfl fun hr' => ?_
  obtain ⟨tt, p, i⟩ := exit_body (P := P) (w := w) (f := f) (cdv := cdv) (A := A) (outer := outer) (s := s) (H := H) (E := EN) T
  refine ⟨tt, p, i ρ h H [some t, none, none, none] _ _ R ⟨rfl, fun j v hj => ?_⟩ ?_⟩
  · match j, hj with
    | 0, hj => cases hj; exact ⟨v1, rfl, z⟩
    | 1, hj => cases hj
    | 2, hj => cases hj
    | 3, hj => cases hj
    | n + 4, hj => simp at hj
  · unfold exitM at o
    cases e : b_Trial___exit__ [some t, none, none, none] h with
    | no => rw [e] at o; exact o
    | ex c d h1 => rw [e] at o; exact o.elim
    | ok fl h1 =>
      rw [e] at o
      cases fl with
      | nx l1 => exact o.elim
      | bk l1 => exact o.elim
      | ct l1 => exact o.elim
      | rt v =>
        cases v with
        | bl b =>
          cases b with
          | true => exact o.elim
          | false =>
            intro ρ1 H1 p1 R1 u z1
            cases z1
            exact ⟨rfl, o ρ1 H1 .non p1 R1 .non⟩
        | _ => exact o.elim
end MR
set_option maxHeartbeats 4000000
/-! Mirror 56: attempt, the lambda within the lambda. -/
namespace MR
open PySem PySem.Spec PySem.Calls PyProof.Rows L2 He LamX
section
variable {P : Program} {w : World} {K : PySem.W.Frag} {mg : Str → Option Value} {base : Heap} {A : Around} {outer : List Env} {s : Shared} {H : Hp}
/-- a lambda of one parameter, its code known, nothing captured -/
theorem lam1_run {f c P' : Addr} {oc : Obj} {q x : Str} {params : Arguments} {body : Expr} {scope : Scope} {pm ctv u : Value} {v : V} {k : Nat} {Q : VK} {E : XK} {tb : TE}
    (of : s.heap.get? f = some (PySem.W.kla_obj "<lambda>" q params body scope [] pm c ctv)) (hc : H c = some (.frz oc (CodeT c P' q))) (S : FnScope [x] [x] scope) (hr : Room (k + 1) A) (e0 : Env0 P w K mg base A outer s H)
    (hbind : bindArgs (PySem.W.kla_fn "<lambda>" q params body scope [] pm (.ref c) ctv) ⟨[u], []⟩ = pure [(x, u)]) (r : RelV v u)
    (hbody : Room k (A.deeper (envOfC q scope s.heap.objs.size f (.ref c))) → PE (cxOf (L2.CX P w) P w K mg base [x] q scope f (.ref c) A outer s H E) body tb) (h : tb [some v] H Q) :
    codeAny (model P w) A (.call (.ref f) ⟨[u], []⟩) (CR (L2.CX P w) outer P w H s Q E) s := by
  obtain ⟨_, ⟨⟨oc, vs, t, hoc, hdc, hvc⟩, _⟩, _, _⟩ := e0.hok c _ hc
  have lim : s.heap.NoLimit := e0.mod.nolimit.keeps fun b o e => (e0.bs b o e).1
  have hkind : ∀ y ∈ [x].zip [u], scope.names.lookup y.1 = some .local ∨ (scope.names.lookup y.1 = some .cell ∧ ((cellsFrom (s.heap.objs.size + 1) scope.names []).lookup y.1).isSome = true) := fun ⟨n, v⟩ hy => by
    rcases S.par n (List.of_mem_zip hy).1 with q | q
    · exact .inl q
    · exact .inr ⟨q, PySem.W.cellsFrom_some _ _ _ (.inl q)⟩
  refine PySem.W.kla_callFunE hr.depth of rfl S.co S.gen rfl ⟨c, oc, vs, t, rfl, hoc, hdc, hvc⟩ ?_
  rw [hbind]
  refine wpAny_pure (wpAny_newFunctionEnv_cells S.kind hkind fun env he s1 x => ?_)
  subst he
  refine ⟨lim.keeps x.toInCall.keep, ?_⟩
  have I := inv_start (CX := L2.CX P w) (P := P) (w := w) (cd := .ref c) (f := f) (qual := q) (E := E) (vs := [v]) (us := [u]) S hr.hd e0 rfl (.cons r .nil) x
  show codeAny _ _ (.expr body (envOfC q scope s.heap.objs.size f (.ref c))) _ _
  refine PySem.W.kla_codeExpr (wpAny_mono ((hbody (hr.deeper _)).run [] s1 _ H Q I h) (fun v s' hq => ?_) fun e s' hq => hq)
  obtain ⟨w', H', J', rv, q⟩ := hq
  exact ⟨w', H', J'.os, J'.bare, J'.base, J'.hok, rv, q⟩
end
abbrev st_attempt : Stmt := inClass (top 41) 12
def attU (t y : LV) (h2 : LH) : Out LV := match eMethN [41] 1 m_Desk_undo (eVar 0) aNil [some y] h2 with
  | .ex c e h3 => (exitM t h3).bind fun _ h4 => .ex c e h4
  | _ => .no
def attT (t : LV) (h1 : LH) : Out LV := match insL t h1 with
  | some (c, _) => match hasC c [42] with
    | true => (m_Trial___enter__ [t] h1).bind fun y h2 => attU t y h2
    | false => .no
  | none => .no
theorem attM_eq (d : LV) (h : LH) : attM d h = (eMethN [41] 1 m_Desk_trial (eVar 0) aNil [some d, none, none] h).bind attT := rfl
section
variable {w : World} {K : PySem.W.Frag} {mg : Str → Option Value} {base : Heap}
abbrev attX (w : World) (K : PySem.W.Frag) (mg : Str → Option Value) (base : Heap) (f : Addr) (cdv : Value) (A : Around) (outer : List Env) (s : Shared) (H : Hp) (E : XK) : Cx :=
  cxOf (L2.CX PR w) PR w K mg base ["self", "work", "held"] "Desk.attempt" (defScope st_attempt) f cdv A outer s H E
theorem ZZ.methAt (Z : ZZ w K mg base) (i : Nat) {x : Str} {cs : List Nat} {d : FnA} {c : Nat} (hc : c ∈ cs) (h : methL[i]? = some (x, cs, d) := by rfl) : Meth K (kc K c) x (d.at_ K) :=
  methB_ok (ba (List.all_eq_true.mp (List.all_eq_true.mp Z.xx.a9 (x, cs, d) (List.mem_of_getElem? h)) c hc)).2
/-- the exception of the body meets the with: noted, __exit__ called, on it goes -/
theorem with_exc (Z : ZZ w K mg base) {X : Cx} {f : Addr} {cdv : Value} {A0 : Around} {outer0 : List Env} {s0 : Shared} {H0 : Hp} {E0' : XK} (hX : X = attX w K mg base f cdv A0 outer0 s0 H0 E0') {pins : List (Addr × Obj)} {x : Addr} {t : LV} {Q : Flow → Shared → Prop} {u : Value} {s' : Shared} {Wout : WX} {W : WX} {xe : Value → Shared → Prop} (ok : X.Ok) (tk : Takes X Wout) (hr : Room 3 X.A)
    (hW : ∀ cls d σ H, W cls d σ H → ∃ (D : Addr) (ρ : List Addr) (h : LH), cls = .ref D ∧ Rel (cstOf K) ρ h H ∧ RV ρ t (.ref x) ∧ OkG (cstOf K) EN RV ρ (exitM t h) (fun _ H' => ∀ σ, Wout cls d σ H'))
    (xx : XE (X.tr (X.pn ++ pins) xe) W u s') :
    wpAny (model X.prog X.w) X.A (noteFrame u X.env) (fun _ s₅ => wpAny (model X.prog X.w) X.A (setFlight u none) (fun _ s₆ => ∃ (cls tb : Value), PySem.W.Looks (model X.prog X.w) s₆.heap (typeOf u) cls ∧ PySem.W.Looks (model X.prog X.w) s₆.heap (tracebackOf u) tb ∧
      wpAny (model X.prog X.w) X.A (PySem.run (.call (.ref (d_Trial___exit__.at_ K)) ⟨[.ref x, cls, u, tb], []⟩) (some u)) (fun f s₇ => f = Flow.ret (.bool false) ∧ wpAny (model X.prog X.w) X.A (PySem.passOn "with" u X.env : Sem Flow) Q X.xe s₇) X.xe s₆) X.xe s₅) X.xe s' := by
  have hs : X.stack = X.env :: X.outer := by rw [hX] <;> rfl
  have hf : X.env.frame = some X.env.locals := by rw [hX] <;> rfl
  have hex : X.ex = [] := by rw [hX] <;> rfl
  have hfr : X.A.frames = some (X.env :: X.outer) := by rw [ok.frames, hs]
  obtain ⟨a, B, sI, pins', σ', H', cls, d, rfl, J', nb, up, sky, na, os, ag, hw0⟩ := xx
  have J : Inv X pins σ' H' sI := J'.ofTry ok
  have sky' : Sky B (X.env :: X.outer) a (Zc cls d) X.env.locals s'.heap := by rw [← hs]; exact sky
  refine Sky.land Zc.steady hfr hf sky' fun h3 fl3 up3 => ?_
  have J3 : Inv X pins σ' H' { s' with heap := h3 } := J.landed nb fl3.1 (up.trans up3) os ag
  obtain ⟨k1, k2, k3, oe, vs, T, oT, ts, he3, hz, hd, hv1, hnT, hTe, hT, hdT, ht3⟩ := id fl3
  have nT : H' T = none := (J.inGround nb).gone hnT
  have notFr : ∀ (b : Addr) (o : Obj) (fv : Array Value), h3.get? b = some o → o.data = .fields fv → b ∉ frs (X.env :: X.outer) := fun b o fv e dd hm => by
    obtain ⟨_, o', e', hnf⟩ := k3.mem hm
    have eo : o = o' := Option.some.inj (e.symm.trans e')
    rw [← eo] at hnf
    exact hnf _ dd
  have fa := notFr a oe vs he3 hd
  have fT := notFr T oT ts hT hdT
  have hts : 3 < ts.size := (Array.getElem?_eq_some_iff.mp ht3).1
  obtain ⟨t1, ht1⟩ : ∃ t1, ts[1]? = some t1 := ⟨_, Array.getElem?_eq_some_iff.mpr ⟨by omega, rfl⟩⟩
  obtain ⟨D, ρ, h, hcls, R, z, o⟩ := hW _ _ _ _ hw0
  obtain ⟨tbV, htbV⟩ : ∃ v : V, RelV v (if (t1 == Value.none) = true then Value.none else .ref T) := by
    by_cases q : (t1 == Value.none) = true
    · exact ⟨.non, by rw [if_pos q]; rfl⟩
    · exact ⟨.ref T, by rw [if_neg q]; rfl⟩
  refine ⟨cls, if (t1 == Value.none) = true then Value.none else .ref T, fun A Q E s k q => wpAny_typeOf_ref (k _ _ he3) (by rw [hz.1]; exact q), fun A Q E s k q => ?_, ?_⟩
  · unfold tracebackOf
    refine wpAny_bind (wpAny_field (k _ _ he3) hd hv1 ?_)
    dsimp only
    by_cases qq : (t1 == Value.none) = true
    · rw [if_pos qq] at q
      refine wpAny_bind (wpAny_field (k _ _ hT) hdT ht1 ?_)
      first
        | (rw [if_pos qq]; exact wpAny_pure q)
        | (rw [if_pos qq]; exact wpAny_bind (wpAny_pure q))
    · rw [if_neg qq] at q
      refine wpAny_bind (wpAny_field (k _ _ hT) hdT ht1 ?_)
      first
        | (rw [if_neg qq]; exact wpAny_pure q)
        | (rw [if_neg qq]; exact wpAny_bind (wpAny_pure q))
  obtain ⟨fd, F, _, b⟩ := f_Trial___exit__ Z
  refine wpAny_run ?_ (fun z => by cases z)
  have run : codeAny (model X.prog X.w) (X.A.mark (some (.ref a))) (.call (.ref (d_Trial___exit__.at_ K)) ⟨[.ref x, cls, .ref a, if (t1 == Value.none) = true then Value.none else .ref T], []⟩) (CR (L2.CX X.prog X.w) X.stack X.prog X.w H' { s' with heap := h3 } (fun v H' => v = .bl false ∧ ∀ σ, Wout cls d σ H') EN) { s' with heap := h3 } := by
    have e0 : Env0 X.prog X.w X.K X.mg X.base (X.A.mark (some (.ref a))) X.stack { s' with heap := h3 } H' := { J3.env0 with frames := J3.env0.frames }
    have hrW : L2H.RoomH 3 (X.A.mark (some (.ref a))) := ⟨hr.dp, hr.un⟩
    subst hX
    exact exit_ok (P := PR) (w := w) Z.tx F b (v1 := .ref x) (v2 := .ref D) (v3 := .ref a) (v4 := tbV) (E := EN) hrW e0 (.cons rfl (.cons (by rw [hcls]; rfl) (.cons rfl (.cons htbV .nil)))) R z o
  refine codeAny_mono run fun r s6 hq => ?_
  cases r with
  | error e =>
    obtain ⟨_, _, _, _, _, _, _, _, _, _, _, _, z⟩ := hq
    exact z.elim
  | ok fl =>
    cases fl with
    | next => exact False.elim hq
    | brk => exact False.elim hq
    | cont => exact False.elim hq
    | ret u6 =>
      obtain ⟨v, H6, os6, bare6, un, hok6, rv, ev, hW6⟩ := hq
      subst ev
      obtain rfl : u6 = Value.bool false := rv
      refine ⟨rfl, ?_⟩
      have J6 : Inv X pins σ' H6 s6 := J3.call' (ch := []) os6 un hok6 bare6 fun b z => absurd z (by simp)
      have ga : s6.heap.get? a = some oe := un.keep a oe he3 na (by rw [hs]; exact fa) (by simp)
      have gT : s6.heap.get? T = some oT := un.keep T oT hT nT (by rw [hs]; exact fT) (by simp)
      have na6 : H6 a = none := un.free a oe he3 na (by simp)
      have nT6 : H6 T = none := un.free T oT hT nT (by simp)
      -- what is not the exception's
      have far : ∀ b o, sI.heap.get? b = some o → b ≠ a ∧ b ≠ T := fun b o e => by
        by_cases hb : b ∈ frs X.stack
        · rw [hs] at hb
          exact ⟨fun z => fa (by rw [← z]; exact hb), fun z => fT (by rw [← z]; exact hb)⟩
        · have q := nb b o e hb
          exact ⟨fun z => by
            rw [z, k2] at q
            exact (nomatch q), fun z => by
            rw [z, hnT] at q
            cases q⟩
      have far0 : ∀ b o, X.s_0.heap.get? b = some o → b ≠ a ∧ b ≠ T := fun b o e => by
        obtain ⟨o', q⟩ := J.base.there b o e (by rw [hex]; simp)
        exact far b o' q
      have farP : ∀ p ∈ X.pn ++ pins, p.1 ≠ a ∧ p.1 ≠ T := fun p hp => far p.1 p.2 (J.pin p hp).1
      obtain ⟨G, g1, g2⟩ := restrict s6.heap fun b => !(decide (b = a) || decide (b = T))
      have gIn : ∀ b o, G.get? b = some o → s6.heap.get? b = some o ∧ b ≠ a ∧ b ≠ T := fun b o e => by
        cases q : (!(decide (b = a) || decide (b = T))) with
        | false =>
          rw [g2 b q] at e
          cases e
        | true =>
          rw [g1 b q] at e
          simp only [Bool.not_eq_true', Bool.or_eq_false_iff, decide_eq_false_iff_not] at q
          exact ⟨e, q.1, q.2⟩
      have gOf : ∀ b o, b ≠ a → b ≠ T → s6.heap.get? b = some o → G.get? b = some o := fun b o h1 h2 e => by
        rw [g1 b (by simp [h1, h2])]
        exact e
      have I6 : Inv X pins σ' H6 { s6 with heap := G } := J6.less (fun b o e => (gIn b o e).1) gOf ⟨oe, vs, ga, hd⟩ ⟨oT, ts, gT, hdT⟩ na6 nT6 far0 farP
      have B6in : ∀ b o, (PySem.W.hideAll G (frs X.stack)).get? b = some o → s6.heap.get? b = some o := fun b o e => (gIn b o (PySem.W.of_hideAll _ e)).1
      have Bno : ∀ b, (b = a ∨ b = T) → (PySem.W.hideAll G (frs X.stack)).get? b = none := fun b hb => by
        cases q : (PySem.W.hideAll G (frs X.stack)).get? b with
        | none => rfl
        | some o =>
          obtain ⟨_, n1, n2⟩ := gIn b o (PySem.W.of_hideAll _ q)
          rcases hb with z | z
          · exact absurd z n1
          · exact absurd z n2
      have fl6 : HandSPX.FlyingZ (PySem.W.hideAll G (frs X.stack)) (X.env :: X.outer) a (Zc cls d) s6.heap := by
        refine ⟨B6in, Bno a (.inl rfl), ?_, oe, vs, T, oT, ts, ga, hz, hd, hv1, Bno T (.inr rfl), hTe, gT, hdT, ht3⟩
        have ff := funFrames_none (B := PySem.W.hideAll G (frs X.stack)) J6.stack fun b hb => PySem.W.hideAll_none _ hb
        rw [← hs]
        exact ff
      unfold PySem.passOn
      refine wpAny_bind (wpAny_field ga hd hv1 ?_)
      rw [if_neg (show ¬ ((Value.ref T == Value.none) = true) from by simp)]
      have goOn : wpAny (model X.prog X.w) X.A (setFlight (.ref a) X.env.frame) (fun _ s7 => wpAny (model X.prog X.w) X.A (throw (.ref a) : Sem Flow) Q X.xe s7) X.xe s6 := by
        rw [hf]
        refine HandSPX.setFlight_upZ fl6 fun h7 hh7 up7 => wpAny_throw (tk _ _ ?_)
        refine ⟨a, PySem.W.hideAll G (frs X.stack), { s6 with heap := G }, pins, σ', H6, cls, d, rfl, I6, fun b o e hb => PySem.W.hideAll_get _ e hb, ?_, .inr (.inr (by rw [← hs] at hh7; exact hh7)), na6, rfl, J6.bare, hW6 _⟩
        exact Heap.UpToSlots.trans (Heap.UpToSlots.of_keeps fun b o e => (gIn b o e).1) up7
      first
        | exact wpAny_bind (wpAny_pure (wpAny_bind goOn))
        | exact wpAny_bind goOn
end
end MR
set_option maxHeartbeats 4000000
/-! Mirror 57: attempt. -/
namespace MR
open PySem PySem.Spec PySem.Calls PyProof.Rows L2 He LamX
section
variable {w : World} {K : PySem.W.Frag} {mg : Str → Option Value} {base : Heap}
/-- what is known of the lambda that attempt got -/
structure Lam1 (w : World) (K : PySem.W.Frag) (mg : Str → Option Value) (base : Heap) (s : Shared) (H : Hp) (outer : List Env) (f2 c2 : Addr) (q2 : Str) (params : Arguments) (body : Expr) (scope : Scope) (pm ctv : Value) : Prop where
  of : s.heap.get? f2 = some (PySem.W.kla_obj "<lambda>" q2 params body scope [] pm c2 ctv)
  hfn : H f2 = none
  hfr : f2 ∉ frs outer
  hc : ∃ oc P2, H c2 = some (.frz oc (CodeT c2 P2 q2))
  sc : FnScope ["_law_same"] ["_law_same"] scope
  bind : ∀ u : Value, bindArgs (PySem.W.kla_fn "<lambda>" q2 params body scope [] pm (.ref c2) ctv) ⟨[u], []⟩ = pure [(("_law_same" : Str), u)]
  body : ∀ (A : Around) (outer : List Env) (s : Shared) (H : Hp) (E : XK), Room 4 (A.deeper (envOfC q2 scope s.heap.objs.size f2 (.ref c2))) →
    TrE (cstOf K) E (cxOf (L2.CX PR w) PR w K mg base ["_law_same"] q2 scope f2 (.ref c2) A outer s H E) body (eMethN [41] 1 m_Desk_undo (eVar 0) aNil)
def ErrW (K : PySem.W.Frag) (X : Cx) (x : Addr) (Q : Flow → Shared → Prop) (u : Value) (s' : Shared) : Prop :=
  wpAny (model X.prog X.w) X.A (noteFrame u X.env) (fun _ s₅ => wpAny (model X.prog X.w) X.A (setFlight u none) (fun _ s₆ => ∃ (cls tb : Value), PySem.W.Looks (model X.prog X.w) s₆.heap (typeOf u) cls ∧ PySem.W.Looks (model X.prog X.w) s₆.heap (tracebackOf u) tb ∧
      wpAny (model X.prog X.w) X.A (PySem.run (.call (.ref (d_Trial___exit__.at_ K)) ⟨[.ref x, cls, u, tb], []⟩) (some u)) (fun f s₇ => f = Flow.ret (.bool false) ∧ wpAny (model X.prog X.w) X.A (PySem.passOn "with" u X.env : Sem Flow) Q X.xe s₇) X.xe s₆) X.xe s₅) X.xe s'
theorem att_with (Z : ZZ w K mg base) {f : Addr} {cdv : Value} {A : Around} {outer : List Env} {s : Shared} {H : Hp} {E : XK} {ρ : List Addr} {h : LH} {d : LV} {a f2 c2 : Addr} {q2 : Str} {params : Arguments} {body : Expr} {scope : Scope} {pm ctv : Value} {Q : VK}
    (L : Lam1 w K mg base s H outer f2 c2 q2 params body scope pm ctv) {ctx : Expr} {py p1 p2 cp rp pos : Pos} (hctx : TrE (cstOf K) E (attX w K mg base f cdv A outer s H E) ctx (eMethN [41] 1 m_Desk_trial (eVar 0) aNil))
    (hr : Room 6 (A.deeper (envOfC "Desk.attempt" (defScope st_attempt) s.heap.objs.size f cdv))) (R : Rel (cstOf K) ρ h H) (z : RV ρ d (.ref a)) (o : OkG (cstOf K) E RV ρ (attM d h) Q) :
    PS (attX w K mg base f cdv A outer s H E) (.With [⟨ctx, some (.Name "held" py)⟩] [.Return (some (.Call (.Name "work" p1) [.Name "held" p2] [] cp)) rp] pos) (fun D σ H' => σ = L2.start ["self", "work", "held"] [.ref a, .ref f2] ∧ H' = H) := by
  refine ⟨fun pins s1 σ H' D I ⟨eσ, eH⟩ => ?_⟩
  subst eσ
  subst eH
  rw [attM_eq] at o
  obtain ⟨tc, pc, ic⟩ := hctx
  have Rσ : RSl ρ [some d, none, none] (L2.start ["self", "work", "held"] [V.ref a, .ref f2]) := ⟨rfl, fun j v hj => match j, hj with
    | 0, hj => by cases hj; exact ⟨_, rfl, z⟩
    | 1, hj => by cases hj
    | 2, hj => by cases hj
    | n + 3, hj => by simp at hj⟩
  refine PySem.W.kw_execN (thn (pc.run pins s1 _ H' (fun v H1 => ∃ ρ1 h1 t, Rel (cstOf K) ρ1 h1 H1 ∧ RV ρ1 t v ∧ OkG (cstOf K) E RV ρ1 (attT t h1) Q) I (ic ρ h H' _ _ _ R Rσ (o.bind fun v h1 ρ1 H1 u p1 R1 z1 o1 => ⟨ρ1, h1, v, R1, z1, o1⟩))) fun u s2 hu => ?_)
  obtain ⟨v, H1, I2, rv, ρ1, h1, t, R1, z1, o1⟩ := hu
  unfold attT at o1
  cases e : insL t h1 with
  | none => rw [e] at o1; exact o1.elim
  | some qq =>
    obtain ⟨c, sl⟩ := qq
    rw [e] at o1
    dsimp only at o1
    cases e2 : hasC c [42] with
    | false => rw [e2] at o1; exact o1.elim
    | true =>
      rw [e2] at o1
      dsimp only at o1
      have hc42 : c = 42 := by simpa using hasC_ok e2
      subst hc42
      obtain ⟨x, dx, vs, _, _, rfl, _, hslt, _⟩ := insL_ok R1 z1 e
      obtain rfl : u = Value.ref x := rv
      obtain ⟨sl', od, rs, J, hl⟩ := SlX.slt_inst I2 hslt
      obtain ⟨fe, ke1, ke2, ke3⟩ := (h_Trial___enter__ Z).ex 42 (by simp)
      have kx := Z.methAt 16 (d := d_Trial___exit__) (cs := [42]) (c := 42) (List.mem_cons_self ..)
      unfold PySem.W.KwIn
      refine with_core (K := K) (C := kc K 42) (fe := fe) (fx := d_Trial___exit__.at_ K) I2.kIn J ke2.at_ ke2.fn kx.at_ kx.fn (Err := ErrW K (attX w K mg base f cdv A outer s H' E) x (SP (attX w K mg base f cdv A outer s H' E) pins D)) ?_ (fun e s4 h => h)
      have enter : codeAny (model (attX w K mg base f cdv A outer s H' E).prog (attX w K mg base f cdv A outer s H' E).w) (attX w K mg base f cdv A outer s H' E).A (.call (.ref fe) ⟨[.ref x], []⟩) (fun r s' => match r with
          | .ok (.ret v) => EP (attX w K mg base f cdv A outer s H' E) pins (L2.start ["self", "work", "held"] [V.ref a, .ref f2]) (fun y H2 => ∃ ρ2 h2 yl, Rel (cstOf K) ρ2 h2 H2 ∧ RV ρ2 yl y ∧ RV ρ2 t (.ref x) ∧ OkG (cstOf K) E RV ρ2 (attU t yl h2) Q) v s'
          | .ok _ => False
          | .error e => (attX w K mg base f cdv A outer s H' E).xe e s') s2 :=
        run_fnR (X := attX w K mg base f cdv A outer s H' E) (vs := [.ref x]) (us := [.ref x]) (E := E) ke3 (hr.mono (by decide)) (pass_of rfl rfl rfl rfl) I2 (.cons rfl .nil) ⟨rfl, ρ1, h1, [t], R1, .cons z1 .nil, o1.bind fun y h2 ρ2 H2 uy p2 R2 z2 o2 => ⟨ρ2, h2, y, R2, z2, z1.mono p2, o2⟩⟩
      refine wpAny_call (codeAny_mono enter fun r s3 hq => ?_)
      cases r with
      | error e => exact hq
      | ok fl =>
        cases fl with
        | next => exact False.elim hq
        | brk => exact False.elim hq
        | cont => exact False.elim hq
        | ret uy =>
          obtain ⟨y, H2, I3, ry, ρ2, h2, yl, R2, zy, zt, o2⟩ := hq
          refine wpAny_assign_Name (store_ok (i := 2) I3 (show (["self", "work", "held"] : List Str).Nodup from by decide) rfl (.inl rfl) ry fun s4 I4 => ?_)
          have ok := I4.ok
          have I5 : Inv ((attX w K mg base f cdv A outer s H' E).tr ((attX w K mg base f cdv A outer s H' E).pn ++ pins) (ErrW K (attX w K mg base f cdv A outer s H' E) x (SP (attX w K mg base f cdv A outer s H' E) pins D))) [] _ H2 s4 := I4.toTry _
          -- what is wished of the exception
          have tkW : Takes ((attX w K mg base f cdv A outer s H' E).tr ((attX w K mg base f cdv A outer s H' E).pn ++ pins) (ErrW K (attX w K mg base f cdv A outer s H' E) x (SP (attX w K mg base f cdv A outer s H' E) pins D)))
              (fun cls da _ H3 => ∃ c e ρ3 h3, cls = .ref ((cstOf K).exc c) ∧ Rel (cstOf K) ρ3 h3 H3 ∧ RD ρ3 e da ∧ RV ρ3 t (.ref x) ∧ OkG (cstOf K) E RV ρ3 ((exitM t h3).bind fun _ h4 => .ex c e h4) Q) := fun u s' xx => by
            refine with_exc Z rfl ok (takes_of rfl rfl rfl rfl) (hr.mono (by decide)) (fun cls da σ H3 ⟨c, e, ρ3, h3, e1, R3, rd, z3, o3⟩ => ⟨_, ρ3, h3, e1, R3, z3, ?_⟩) xx
            cases e4 : exitM t h3 with
            | no => rw [e4] at o3; exact o3.elim
            | ex c d h => rw [e4] at o3; unfold exitM at e4; split at e4 <;> cases e4
            | ok v h4 =>
              rw [e4] at o3
              have o3 : ExOk (cstOf K) E ρ3 c e h4 := o3
              intro ρ4 H4 u p4 R4 z4 σ
              rw [e1]
              exact o3 ρ4 H4 da p4 R4 (rd.mono p4)
          refine wpAny_execs_cons (wpAny_Return_some ?_)
          refine wpAny_Call_Name_kw (thn ((pe_var (X := (attX w K mg base f cdv A outer s H' E).tr ((attX w K mg base f cdv A outer s H' E).pn ++ pins) (ErrW K (attX w K mg base f cdv A outer s H' E) x (SP (attX w K mg base f cdv A outer s H' E) pins D))) (pos := p1) (i := 1) (x := "work") rfl (.inl rfl)).run [] s4 _ H2 (fun v H3 => v = .ref f2 ∧ H3 = H2) I5 ⟨.ref f2, rfl, rfl, rfl⟩) fun u s5 hu5 => ?_)
          obtain ⟨v5, H5, I6, r6, ev5, eH5⟩ := hu5
          subst ev5
          subst eH5
          obtain rfl : u = Value.ref f2 := r6
          have of5 := I6.base.keep f2 _ L.of L.hfn L.hfr (fun z => nomatch (show f2 ∈ ([] : List Addr) from z))
          refine PySem.W.callWith_F ⟨_, _, _, _, of5⟩ ?_
          refine thn ((pa_cons (pe_var (X := (attX w K mg base f cdv A outer s H' E).tr ((attX w K mg base f cdv A outer s H' E).pn ++ pins) (ErrW K (attX w K mg base f cdv A outer s H' E) x (SP (attX w K mg base f cdv A outer s H' E) pins D))) (pos := p2) (i := 2) (x := "held") rfl (.inl rfl)) pa_nil rfl).run cp [] s5 _ H5 (fun vs H3 => vs = [y] ∧ H3 = H5) I6 ⟨y, rfl, rfl, rfl⟩) fun us s6 hu6 => ?_
          obtain ⟨vs, H6, I7, r7, ev7, eH7⟩ := hu6
          subst ev7
          subst eH7
          cases r7 with
          | @cons _ uy2 _ _ ry2 tl =>
          cases tl
          have of7 := I7.base.keep f2 _ L.of L.hfn L.hfr (fun z => nomatch (show f2 ∈ ([] : List Addr) from z))
          obtain ⟨oc2, P2, hc2⟩ := L.hc
          have hc7 : H6 c2 = some (.frz oc2 (CodeT c2 P2 q2)) := I7.base.frzs _ _ _ hc2
          have hr5 : Room 5 (attX w K mg base f cdv A outer s H' E).A := hr.mono (by decide)
          obtain ⟨tb, pb, ib⟩ := L.body (attX w K mg base f cdv A outer s H' E).A (attX w K mg base f cdv A outer s H' E).stack s6 H6 (fun cls da H3 => ∃ c e ρ3 h3, cls = .ref ((cstOf K).exc c) ∧ Rel (cstOf K) ρ3 h3 H3 ∧ RD ρ3 e da ∧ RV ρ3 t (.ref x) ∧ OkG (cstOf K) E RV ρ3 ((exitM t h3).bind fun _ h4 => .ex c e h4) Q) (hr5.deeper _)
          have wish : OkG (cstOf K) (fun cls da H3 => ∃ c e ρ3 h3, cls = .ref ((cstOf K).exc c) ∧ Rel (cstOf K) ρ3 h3 H3 ∧ RD ρ3 e da ∧ RV ρ3 t (.ref x) ∧ OkG (cstOf K) E RV ρ3 ((exitM t h3).bind fun _ h4 => .ex c e h4) Q) RV ρ2 (eMethN [41] 1 m_Desk_undo (eVar 0) aNil [some yl] h2) (fun _ _ => False) := by
            unfold attU at o2
            cases e5 : eMethN [41] 1 m_Desk_undo (eVar 0) aNil [some yl] h2 with
            | no => rw [e5] at o2; exact o2.elim
            | ok v h => rw [e5] at o2; exact o2.elim
            | ex c e h3 =>
              rw [e5] at o2
              intro ρ3 H3 da p3 R3 rd
              exact ⟨c, e, ρ3, h3, rfl, R3, rd, zt.mono p3, OkG.mono o2 p3⟩
          refine ⟨⟨_, _, _, _, of7⟩, wpAny_call (codeAny_mono (lam1_run (k := 4) (Q := fun _ _ => False) of7 hc7 L.sc hr5 I7.env0 (L.bind uy2) ry2 (fun _ => pb) (ib ρ2 h2 H6 [some yl] [some y] _ R2 ⟨rfl, fun j v hj => match j, hj with
            | 0, hj => by cases hj; exact ⟨_, rfl, zy⟩
            | n + 1, hj => by simp at hj⟩ wish)) fun r s7 hq => ?_)⟩
          cases r with
          | error e => exact passes_call tkW (fun _ _ _ _ h => h) [] _ H6 s6 e s7 I7 hq
          | ok fl =>
            cases fl with
            | next => exact False.elim hq
            | brk => exact False.elim hq
            | cont => exact False.elim hq
            | ret u =>
              obtain ⟨_, _, _, _, _, _, _, q⟩ := hq
              exact q.elim
end
end MR
set_option maxHeartbeats 4000000
/-! Mirror 58: the last hole: attempt, called of a lambda. -/
namespace MR
open PySem PySem.Spec PySem.Calls PyProof.Rows L2 He LamX
section
variable {w : World} {K : PySem.W.Frag} {mg : Str → Option Value} {base : Heap}
theorem sc_attempt : FnScope [("self" : Str), ("work" : Str), ("held" : Str)] [("self" : Str), ("work" : Str)] (defScope st_attempt) := ⟨rfl, rfl, rfl, by decide +kernel, rfl, by decide +kernel, by decide +kernel⟩
theorem attempt_run (Z : ZZ w K mg base) {A : Around} {outer : List Env} {s : Shared} {H : Hp} {E : XK} {ρ : List Addr} {h : LH} {d : LV} {a f2 c2 : Addr} {q2 : Str} {params : Arguments} {body : Expr} {scope : Scope} {pm ctv : Value} {Q : VK}
    (L : Lam1 w K mg base s H outer f2 c2 q2 params body scope pm ctv) (hr : Room 7 A) (e0 : Env0 PR w K mg base A outer s H) (R : Rel (cstOf K) ρ h H) (z : RV ρ d (.ref a)) (o : OkG (cstOf K) E RV ρ (attM d h) Q) :
    codeAny (model PR w) A (.call (.ref (d_Desk_attempt.at_ K)) ⟨[.ref a, .ref f2], []⟩) (CR (L2.CX PR w) outer PR w H s Q E) s := by
  obtain ⟨fd, F⟩ := (Z.fn 43 d_Desk_attempt rfl).fun_ rfl
  have b : Binds K fd [("self" : Str), ("work" : Str)] [] := F.binds fun _ _ _ _ _ _ us hl => match us, hl with | [_, _], _ => rfl
  obtain ⟨oc, od, kV, doc, pm', an, cdv, ct, osl, rfl, lk, hcd⟩ := F.ex
  have KX : K.In s.heap := e0.mod.kin.keeps fun b o e => (e0.bs b o e).1
  refine run_ofS (N := [("self" : Str), ("work" : Str), ("held" : Str)]) (ps := [("self" : Str), ("work" : Str)]) (us := [.ref a, .ref f2]) (vs := [.ref a, .ref f2]) lk hcd sc_attempt hr e0 (b s [.ref a, .ref f2] KX rfl) (.cons rfl (.cons rfl .nil)) rfl fun hr' => ?_
  exact ⟨_, pss_one (att_with Z L (e_meth0 (h_Desk_trial Z) (hr'.mono (by decide)) (pass_of rfl rfl rfl rfl) (e_var 0)) hr' R z o), rfl, rfl⟩
/-- as e_word, with what is true in the lambda's body -/
theorem e_wordP {C : Cst} {E : XK} {X : Cx} {c Pt : Addr} {k : Nat} {f : LS → LH → Out LV} {params : Arguments} {body : Expr} {scope : Scope} {p lpos pos : Pos} (W : WordC X.prog X.w X.K X.mg X.base C) (TB : TabB X.base X.mg c Pt) (hcode : X.env.code = .ref c) (hT : LamT C Pt (X.env.qual ++ "<lambda>"))
    (hr : Room (k + 2) X.A) (L : LamS X.env.scope scope)
    (hbody : ∀ (A : Around) (outer : List Env) (s : Shared) (H : Hp) (E : XK) (g c' P' : Addr), Room k (A.deeper (lamEnv X scope s.heap.objs.size g c')) → PE (lamCx X A outer s H E scope g c') body (fun σ H Q => PsiL C Pt c' P' (X.env.qual ++ "<lambda>") H ∧ tIm C E f σ H Q))
    (hg : Gl X "_law_word" := by rfl) (hdef : defaultsOf params X.env = ([], []) := by rfl)
    (hbind : ∀ (q : Str) (cl : List (Str × Addr)) (pm cv ctv : Value), bindArgs (PySem.W.kla_fn "<lambda>" q params body scope cl pm cv ctv) ⟨[], []⟩ = pure [] := by intro _ _ _ _ _; rfl) : TrE C E X (.Call (.Name "_law_word" p) [.Lambda params body scope lpos] [] pos) (eWord f) := by
  obtain ⟨g, pg, bg, sg, dV, kV, doc, pm, cdv, ct, oc, an, od, osl, hm, hk, lk, hcg, hb, Sg, hva, hG⟩ := W.ex
  exact ⟨_, pe_lamcallG (t := fun E => tIm C E f) hg hm hk lk hcg hb Sg rfl hva (hG X k rfl rfl (hr.mono (by omega))) TB hcode hT hr L hdef hbind hbody, im_word⟩
/-- o.attempt(lambda x: x.undo()) in a lambda's body -/
theorem at_body (Z : ZZ w K mg base) {X : Cx} {P c' P' : Addr} {q : Str} {E : XK} {o : Expr} {apos pos lpos : Pos} {params : Arguments} {body : Expr} {scope : Scope} {pl : Sem Bool} {on : Str} {op : Pos} (hX : X.prog = PR ∧ X.w = w ∧ X.K = K ∧ X.mg = mg ∧ X.base = base) (ho : o = .Name on op) (hN : X.N[0]? = some on) (hv : Vis X.env.scope on)
    (hod : (on == ("__debug__" : Str)) = false) (hocd : (on == ("__classdict__" : Str)) = false)
    (hr : Room 7 X.A) (hx : Passes (L2.CX X.prog X.w) X E) (hcode : X.env.code = .ref c') (hn : (cstOf K).nst = (P, q)) (hq : X.env.qual ++ "<lambda>" = inq (cstOf K).nst.2)
    (bm : ∃ Pt, base.BuiltinsAt mg Pt)
    (hdef : defaultsOf params X.env = ([], [])) (hfree : ∀ y ∈ scope.names, y.2 ≠ .free) (hclo : cloFrom X.env.cells scope.names [] = []) (sc : FnScope ["_law_same"] ["_law_same"] scope)
    (hbind : ∀ (q : Str) (pm cv ctv u : Value), bindArgs (PySem.W.kla_fn "<lambda>" q params body scope [] pm cv ctv) ⟨[u], []⟩ = pure [(("_law_same" : Str), u)])
    (hbody : ∀ (A : Around) (outer : List Env) (s : Shared) (H : Hp) (E : XK) (q2 : Str) (f2 c2 : Addr), Room 4 (A.deeper (envOfC q2 scope s.heap.objs.size f2 (.ref c2))) →
      TrE (cstOf K) E (cxOf (L2.CX PR w) PR w K mg base ["_law_same"] q2 scope f2 (.ref c2) A outer s H E) body (eMethN [41] 1 m_Desk_undo (eVar 0) aNil))
    (hst : starEach [.Lambda params body scope lpos] X.env = (false, eval (.Lambda params body scope lpos) X.env) :: starEach [] X.env)
    (ht : eval (.Call (.Attribute o "attempt" apos) [.Lambda params body scope lpos] [] pos) X.env = (do
      let ov ← eval o X.env
      standAt apos.atName
      let (f, first) ← holding [ov] (getMethod ov "attempt" pl)
      callWith pos f first (backTo pos (starEach [.Lambda params body scope lpos] X.env)) (backToKw pos (keywordEach [] X.env)))) :
    PE X (.Call (.Attribute o "attempt" apos) [.Lambda params body scope lpos] [] pos) (fun σ H Q => PsiL (cstOf K) P c' P' q H ∧ tIm (cstOf K) E (eAtt (eVar 0)) σ H Q) := by
  obtain ⟨h1, h2, h3, h4, h5⟩ := hX
  refine ⟨fun pins s σ H Q I h => ?_⟩
  obtain ⟨⟨⟨oc, hc⟩, hno⟩, ρ, h, l, R, S, o⟩ := h
  have nest : NestOk (cstOf K) H P' := hno hn
  unfold eAtt eVar at o
  cases e0 : nth l 0 with
  | none => rw [e0] at o; exact o.elim
  | some x =>
  rw [e0] at o
  dsimp only at o
  cases e : insL x h with
  | none => rw [e] at o; exact o.elim
  | some qq =>
  obtain ⟨cn, sl⟩ := qq
  rw [e] at o
  dsimp only at o
  cases e2 : hasC cn [41] with
  | false => rw [e2] at o; exact o.elim
  | true =>
  rw [e2] at o
  dsimp only at o
  have hc41 : cn = 41 := by simpa using hasC_ok e2
  subst hc41
  obtain ⟨u0, hσ, zr⟩ := S.2 0 x (nth_eq e0)
  obtain ⟨a, dx, vs, _, _, rfl, _, hslt, _⟩ := insL_ok R zr e
  have hm := Z.methAt 14 (d := d_Desk_attempt) (cs := [41]) (c := 41) (List.mem_cons_self ..)
  obtain ⟨_, sC, _, _⟩ := (h_Desk_undo Z).ex 41 (List.mem_cons_self ..)
  subst ho
  refine PySem.W.methodCall_KW (pl := pl) (thn ((pe_var (pos := op) (i := 0) hN hv hod hocd).run pins s σ H (fun v H1 => v = .ref a ∧ H1 = H) I ⟨.ref a, hσ, rfl, rfl⟩) fun u s1 hu => ?_) ht
  obtain ⟨v1, H1, I1, r1, ev1, eH1⟩ := hu
  subst ev1
  subst eH1
  obtain rfl : u = Value.ref a := r1
  refine SlX.getmethsl_ok I1 hslt (by rw [h3]; exact sC) (by rw [h3]; exact hm) ?_
  refine PySem.W.callWith_K (first := [.ref a]) (h₀ := X.base) I1.ok.mod.kin (by rw [h3]; exact hm.kp) ?_ hst rfl
  rw [hst]
  obtain ⟨_, ⟨_, hC⟩, _, _⟩ := I1.hok c' _ hc
  have hP' : ∃ ps, s1.heap.get? P' = some { cls := .none, data := .fields ps } := by
    obtain ⟨ps, q1, _⟩ := nest.2.2
    exact ⟨ps, I1.hok P' _ q1⟩
  have gP : mainGlobals ≠ P' := fun z => by
    obtain ⟨ps, q1⟩ := hP'
    obtain ⟨og, es, ep, q2, q3, _⟩ := I1.mod.glob.keeps I1.bk
    rw [z, q1] at q2
    cases q2
    cases q3
  have bP : s1.heap.BuiltinsAt X.mg P' := by
    obtain ⟨Pt, bm0, ob, b1, b2, b3, _, b5, b6, b7, b8⟩ := bm
    have b5 := I1.bk bm0 ob (by rw [h5]; exact b5)
    refine ⟨bm0, ob, by rw [h4]; exact b1, b2, b3, fun z => ?_, b5, b6, b7, b8⟩
    obtain ⟨ps, q1⟩ := hP'
    rw [z, q1] at b5
    cases b5
    cases b6
  refine Calls.spliced_cons (lam_makeG I1 hC bP gP hcode (.inr ⟨hq, nest⟩) R.tabs hdef (fun y hy e => absurd e (hfree y hy)) fun f2 c2 P2 oc2 pm ctv H2 s2 I2 eN T2 hf2 hfn2 hfr2 hc2 _ => Calls.spliced_nil ⟨I2.kIn, ?_⟩)
  rw [hclo] at hf2
  have L1 : Lam1 w K mg base s2 H2 X.stack f2 c2 (X.env.qual ++ "<lambda>") params body scope pm ctv := ⟨hf2, hfn2, hfr2, ⟨oc2, P2, hc2⟩, sc, fun u => hbind _ _ _ _ u, fun A outer s H E hr => hbody A outer s H E _ _ _ hr⟩
  have e0' : Env0 PR w K mg base X.A X.stack s2 H2 := by
    have := I2.env0
    rw [h1, h2, h3, h4, h5] at this
    exact this
  have run := attempt_run Z L1 hr e0' (R.extN eN T2) zr o
  rw [← h1, ← h2] at run
  refine wpAny_call (codeAny_mono run fun r s3 hq => ?_)
  cases r with
  | error e => exact hx pins σ H2 s2 e s3 I2 hq
  | ok fl =>
    cases fl with
    | ret u => exact I2.after hq
    | next => exact False.elim hq
    | brk => exact False.elim hq
    | cont => exact False.elim hq
end
end MR
set_option maxHeartbeats 4000000
/-! Mirror 59: the hole, filled. -/
namespace MR
open PySem PySem.Spec PySem.Calls PyProof.Rows L2 He LamX
section
variable {w : World} {K : PySem.W.Frag} {mg : Str → Option Value} {base : Heap}
theorem at_full (Z : ZZ w K mg base) {f : Addr} : ∀ (A : Around) (outer : List Env) (s : Shared) (H : Hp) (E : XK), Room 12 (A.deeper (envOfC "_law_full_right" (defScope st__law_full_right) s.heap.objs.size f (.ref (lawT K "_law_full_right").1))) →
    TrE (cstOf K) E (cxOf (L2.CX PR w) PR w K mg base [("_law_desk" : Str), ("_law_turn" : Str), ("_law_other" : Str)] "_law_full_right" (defScope st__law_full_right) f (.ref (lawT K "_law_full_right").1) A outer s H E) attE (eWord (eAtt (eVar 0))) := by
  intro A outer s H E hr
  exact e_wordP (k := 10) Z.word (Z.tab "_law_full_right" (by simp)) rfl lamF hr (lamS_by (by kernel_rfl)) (fun A outer s H E g c' P' hr' => at_body Z ⟨rfl, rfl, rfl, rfl, rfl⟩ rfl rfl (.inr (.inr rfl)) (by decide) (by decide) (hr'.mono (by decide)) (pass_of rfl rfl rfl rfl) rfl rfl (by rfl) ⟨_, (Z.tab "_law_full_right" (by simp)).bm⟩ rfl (by decide +kernel) rfl
    ⟨rfl, rfl, rfl, by decide +kernel, rfl, by decide +kernel, by decide +kernel⟩ (fun _ _ _ _ _ => rfl) (fun A outer s H E q2 f2 c2 hr => e_meth0 (h_Desk_undo Z) (hr.mono (by decide)) (pass_of rfl rfl rfl rfl) (e_var 0)) rfl (by rfl))
end
end MR
set_option maxHeartbeats 4000000
/-! Mirror 55: the law's last defs. -/
namespace MR
open PySem PySem.Spec PyProof.Rows L2 He
section
variable {w : World} {K : PySem.W.Frag} {mg : Str → Option Value} {base : Heap}
theorem f__law_full_right (Z : ZZ w K mg base) : ∃ fd, FnOk PR w K mg base (L2.CX PR w) 13 (d__law_full_right.at_ K) fd [("_law_desk" : Str)] (spM (cstOf K) 1 m__law_full_right) ∧ Binds K fd [("_law_desk" : Str)] [] := by
  obtain ⟨fd, F⟩ := (Z.fn 65 d__law_full_right rfl).funC rfl
  obtain ⟨fd', F'⟩ := (Z.fn 65 d__law_full_right rfl).fun_ rfl
  have e : fd' = fd := by
    obtain ⟨_, _, _, _, _, _, _, _, rfl, l1, _⟩ := F.ex
    obtain ⟨_, _, _, _, _, _, _, _, _, rfl, l2, _⟩ := F'.ex
    rw [l1] at l2
    injection l2 with l2
    injection l2 with _ _ l2 _
    injection l2 with l2
    exact l2.symm
  subst e
  exact ⟨_, ok__law_full_right Z.tx Z.word Z.ne (Z.tab "_law_full_right" (by simp)) lamF (h_Desk_put_row Z) (l_Desk Z) (h_Desk_branch Z) (h_Desk_undo Z) (at_full Z) F, F'.binds fun _ _ _ _ _ _ us hl => match us, hl with | [_], _ => rfl⟩
theorem c__law_full_right (Z : ZZ w K mg base) : Cal PR w K mg base (cstOf K) "_law_full_right" 13 1 m__law_full_right := by
  obtain ⟨fd, o, b⟩ := f__law_full_right Z
  exact Z.cal (Z.glo 46) (Z.fn 65 d__law_full_right rfl) o b
theorem f__law_desk_right (Z : ZZ w K mg base) : ∃ fd, FnOk PR w K mg base (L2.CX PR w) 16 (d__law_desk_right.at_ K) fd [("_law_plain" : Str)] (spM (cstOf K) 1 m__law_desk_right) ∧ Binds K fd [("_law_plain" : Str)] [] := by
  obtain ⟨fd, F⟩ := (Z.fn 64 d__law_desk_right rfl).funC rfl
  obtain ⟨fd', F'⟩ := (Z.fn 64 d__law_desk_right rfl).fun_ rfl
  have e : fd' = fd := by
    obtain ⟨_, _, _, _, _, _, _, _, rfl, l1, _⟩ := F.ex
    obtain ⟨_, _, _, _, _, _, _, _, _, rfl, l2, _⟩ := F'.ex
    rw [l1] at l2
    injection l2 with l2
    injection l2 with _ _ l2 _
    injection l2 with l2
    exact l2.symm
  subst e
  exact ⟨_, ok__law_desk_right Z.tx Z.word Z.ne (Z.tab "_law_desk_right" (by simp)) Z.lamD (k_Desk Z) (h_Desk_put_row Z) (h_Desk_turn_end Z) (h_Desk_take_row Z) (p_now Z) (q_Program Z) (p_journal Z) (h_Desk_undo Z) (c__law_full_right Z) F, F'.binds fun _ _ _ _ _ _ us hl => match us, hl with | [_], _ => rfl⟩
theorem c__law_desk_right (Z : ZZ w K mg base) : Cal PR w K mg base (cstOf K) "_law_desk_right" 16 1 m__law_desk_right := by
  obtain ⟨fd, o, b⟩ := f__law_desk_right Z
  exact Z.cal (Z.glo 45) (Z.fn 64 d__law_desk_right rfl) o b
theorem f_law (Z : ZZ w K mg base) : ∃ fd, Fun K d_law.name d_law.qual d_law.st (d_law.at_ K) fd ∧ FnOk PR w K mg base (L2.CX PR w) 17 (d_law.at_ K) fd [("_law_script" : Str)] (spM (cstOf K) 1 m_law) ∧ Binds K fd [("_law_script" : Str)] [] := by
  obtain ⟨fd, F⟩ := (Z.fn 66 d_law rfl).fun_ rfl
  exact ⟨fd, F, ok_law Z.tx (c__law_pair Z) (c__law_texts_right Z) (c__law_desk_right Z) F, F.binds fun _ _ _ _ _ _ us hl => match us, hl with | [_], _ => rfl⟩
theorem c_law (Z : ZZ w K mg base) : Cal PR w K mg base (cstOf K) "law" 17 1 m_law := by
  obtain ⟨fd, F, o, b⟩ := f_law Z
  exact Z.cal (Z.glo 47) (Z.fn 66 d_law rfl) o b
end
end MR
set_option maxHeartbeats 4000000
/-! Mirror 61: the law's promise at the head. -/
namespace MR
open PySem PySem.Spec PyProof.Rows L2 He LamX
abbrev RL : PySem.W.OpenLaw := PySem.Challenge.rw_registerrooms_k25_whole_refused_more
section
variable {w : World} {K : PySem.W.Frag} {mg : Str → Option Value} {h : Heap}
theorem zz_of (S : SaysZ fnL tsL tfL (exB PR) w h K) {base : Heap} (kin : K.In base) (ns : base.Ns mainGlobals mg) (tab : ∀ p ∈ tfL.map (fun p => p K), TabB base mg p.1 p.2) : ZZ w K mg base := by
  refine ⟨fun i d hi => fnZ_of S i hi, kin, ns, S.more, ?_, ?_, fun x hx => ?_⟩
  · have e := congrArg (fun l : List (Option (List (Option (Str × Int)))) => l[0]?) S.t
    exact Option.some.inj e
  · have e := congrArg (fun l : List (Option (List (Option (Str × Int)))) => l[1]?) S.t
    exact Option.some.inj e
  · have hx : x = "_law_texts_right" ∨ x = "_law_desk_right" ∨ x = "_law_full_right" := by simpa using hx
    rcases hx with rfl | rfl | rfl
    · exact tab (lawT K "_law_texts_right") (List.mem_cons_self ..)
    · exact tab (lawT K "_law_desk_right") (List.mem_cons_of_mem _ (List.mem_cons_self ..))
    · exact tab (lawT K "_law_full_right") (List.mem_cons_of_mem _ (List.mem_cons_of_mem _ (List.mem_cons_self ..)))
theorem fun_uniq {x qual : Str} {st : Stmt} {f : Addr} {fd fd' : FuncData} (F : Fun K x qual st f fd) (F' : Fun K x qual st f fd') : fd = fd' := by
  obtain ⟨_, _, _, _, _, _, _, _, _, rfl, l1, _⟩ := F.ex
  obtain ⟨_, _, _, _, _, _, _, _, _, rfl, l2, _⟩ := F'.ex
  rw [l1] at l2
  injection l2 with l2
  injection l2 with _ _ l2 _
  injection l2 with l2
theorem exB_x15 (e : exB PR K = true) : x15 K = true := by
  obtain ⟨_, h2⟩ := ba e
  obtain ⟨_, h3⟩ := ba h2
  obtain ⟨_, h3⟩ := ba h3
  obtain ⟨_, h3⟩ := ba h3
  obtain ⟨_, h3⟩ := ba h3
  exact (ba h3).2
theorem exB_x1 (e : exB PR K = true) : x1 K = true := (ba (ba e).1).1
theorem mem_lk {a : Addr} {o : Obj} : ∀ {K : PySem.W.Frag}, K.lookup a = some o → (a, o) ∈ K
  | [], h => by cases h
  | (b, u) :: r, h => by
    rw [List.lookup_cons] at h
    cases e : a == b with
    | true =>
      rw [e] at h
      have h : some u = some o := h
      cases h
      have : a = b := by simpa using e
      subst this
      exact List.mem_cons_self ..
    | false =>
      rw [e] at h
      exact List.mem_cons_of_mem _ (mem_lk h)
theorem noList (e : exB PR K = true) {a : Addr} {o : Obj} (hk : K.lookup a = some o) (hc : o.cls = .type "list") : False := by
  have h1 := (ba (exB_x15 e)).1
  have h2 := List.all_eq_true.mp h1 (a, o) (mem_lk hk)
  simp [hc] at h2
theorem rel_start (e : exB PR K = true) {H : Hp} {a : Addr} {xs : List V} (hT : ∀ p ∈ tfL.map (fun p => p K), H p.2 = some (.tbl #[])) (hS : SqL K H a xs) : Rel (cstOf K) [a] lawH H := by
  have h15 := exB_x15 e
  obtain ⟨k1, k⟩ := ba (ba h15).2
  obtain ⟨k2, k3⟩ := ba k
  have k2 := of_decide_eq_true k2
  have k3 := of_decide_eq_true k3
  have hg : ∀ j, lawH.t.get j = if j = 0 then some LO.scr else Tr.nil.get j := fun j => Tr.get_put 20 Tr.nil 0 LO.scr j (by decide)
  have nilT : ∀ {P : Addr} {q : Str}, H P = some (.tbl #[]) → TabS1 H P q := fun {P q} hp => ⟨#[], hp, True.intro, fun pos cv hc => by
    have z : codeAmong pos [] = some cv := hc
    simp [codeAmong] at z⟩
  have t0 := hT (lawT K "_law_texts_right") (List.mem_cons_self ..)
  have t1 := hT (lawT K "_law_desk_right") (List.mem_cons_of_mem _ (List.mem_cons_self ..))
  have t2 := hT (lawT K "_law_full_right") (List.mem_cons_of_mem _ (List.mem_cons_of_mem _ (List.mem_cons_self ..)))
  refine ⟨by simp, rfl, fun i hi => ?_, fun i o ho => ?_, ⟨fun p hp => ?_, ?_, #[], t2, True.intro, fun pos cv hc => ?_⟩, fun p hp => absurd (show p ∈ ([] : List (Addr × HO)) from hp) (by simp)⟩
  · have hi : i < 1 := hi
    have : i = 0 := by omega
    subst this
    rw [hg]; rfl
  · rw [hg] at ho
    by_cases z : i = 0
    · subst z
      rw [if_pos rfl] at ho
      cases ho
      refine ⟨a, rfl, ?_⟩
      rcases hS with z | ⟨ob, its, n, hk, hc, _⟩
      · exact ⟨xs, z⟩
      · exact (noList e hk hc).elim
    · rw [if_neg z] at ho
      cases ho
  · have hp : p = ((lawT K "_law_texts_right").2, lamq "_law_texts_right") ∨ p = ((lawT K "_law_desk_right").2, lamq "_law_desk_right") := by simpa [cstOf] using hp
    rcases hp with rfl | rfl
    · exact nilT t0
    · exact nilT t1
  · show (lawT K "_law_full_right").2 ∉ [(lawT K "_law_texts_right").2, (lawT K "_law_desk_right").2]
    simp only [List.mem_cons, List.not_mem_nil, or_false, not_or]
    exact ⟨k2, k3⟩
  · have z : codeAmong pos [] = some cv := hc
    simp [codeAmong] at z
theorem law_ok {C : Cst} {E : XK} {ρ : List Addr} {Q : VK} (hq : ∀ H', Q (.bl true) H') : OkG C E RV ρ (m_law [.ref 0] lawH) Q := by
  have lr := law_runs
  revert lr
  generalize m_law [.ref 0] lawH = x
  intro lr
  unfold isTrueO at lr
  split at lr
  · intro ρ' H' u p R z
    cases z
    exact hq H'
  · cases lr
theorem lawAt {fa : Addr} (S : SaysZ fnL tsL tfL (exB PR) w h K) (KX : K.In h) (G : h.Ns mainGlobals mg) (hm : mg "law" = some (.ref fa)) : LawAtS RL w K (L2.CX RL.prog w) 17 63 "_law_script" mg fa h := by
  have hg : mg "law" = some (.ref (ga K "law")) := glo_ok KX G (List.all_eq_true.mp (exB_x1 S.more) "law" (List.mem_of_getElem? (i := 47) rfl))
  have efa : fa = ga K "law" := by
    rw [hm] at hg
    injection hg with hg
    injection hg
  subst efa
  obtain ⟨fd, F⟩ := (fnZ_of S 66 (d := d_law)).fun_ rfl
  refine ⟨fd, tfL.map (fun p => p K), spM (cstOf K) 1 m_law, fun p hp => ?_, fun p hp => ?_, fun p hp => ?_, fun s u => ?_, fun H a ns _ _ hT hS => ?_, fun base kin ns tab => ?_⟩
  · obtain ⟨q, hq, rfl⟩ := List.mem_map.mp hp
    exact S.empty q hq
  · obtain ⟨q, hq, rfl⟩ := List.mem_map.mp hp
    exact S.out q hq
  · obtain ⟨q, hq, rfl⟩ := List.mem_map.mp hp
    exact PySem.W.codeHd_of_K KX (S.hd q hq)
  · obtain ⟨oc, od, kV, doc, pm, an, cdv, ct, osl, rfl, _, _⟩ := F.ex
    exact .of_eq rfl
  · exact ⟨rfl, [a], lawH, [.ref 0], rel_start S.more hT hS, .cons (.ref rfl) .nil, law_ok fun _ => rfl⟩
  · obtain ⟨fd', F', o, _⟩ := f_law (zz_of S kin ns tab)
    have e := fun_uniq F F'
    rw [e]
    exact o
end
end MR
set_option maxHeartbeats 4000000
open PySem PySem.W PySem.Calls PyProof.Rows
theorem PySem.Challenge.cw_registerrooms_k25_whole_refused_more_holds : PySem.Challenge.rw_registerrooms_k25_whole_refused_more.Holds := by
  w_on; o_law
  refine HandSHeadRun.head_any (r := OpenLaw.row PySem.Challenge.rw_registerrooms_k25_whole_refused_more) (q := view (OpenLaw.row PySem.Challenge.rw_registerrooms_k25_whole_refused_more).prog [65]) (H := MR.hk) (ob := MR.ob) (M := 7000) (loose := MR.loose) (d := HandSHeadRun.topDef (OpenLaw.row PySem.Challenge.rw_registerrooms_k25_whole_refused_more).prog 65) (kwd := []) MR.ob_eq
    (by kernel_rfl) (fun s => by kernel_rfl) MR.run_any (by kernel_rfl) (by kernel_rfl) (by kernel_rfl) (by rfl) (by first | assumption | decide +kernel) (by decide +kernel) ⟨rfl, rfl, rfl, rfl, rfl, by decide +kernel⟩ ?hw ?hc
  case hw => w_witness2
  case hc =>
    refine LamX.walk_ofTsE (l := PySem.Challenge.rw_registerrooms_k25_whole_refused_more) (n := 63) (k := 17) (x := "_law_script") (CX := fun w => L2.CX (PySem.Challenge.rw_registerrooms_k25_whole_refused_more).prog w) rfl (by decide) (by kernel_rfl) ⟨rfl, by decide, by decide⟩ ?F (fun w H s e s' z => ?hCX)
    case F =>
      intro w mg fa h Y G hmg0
      obtain ⟨K, KX, S⟩ := Y
      have hmg : mg ("law" : PySem.Str) = some (.ref fa) := by
        have e : (HandSHeadRun.topDef (OpenLaw.row PySem.Challenge.rw_registerrooms_k25_whole_refused_more).prog 65).name = ("law" : PySem.Str) := by kernel_rfl
        rw [← e]
        exact hmg0
      exact ⟨K, KX, MR.lawAt S KX G hmg⟩
    case hCX =>
      obtain ⟨_, _, _, _, _, _, _, _, _, _, _, _, z⟩ := z
      exact z
