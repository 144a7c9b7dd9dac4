import PyProof.Rows.All
import Wide.All
import OpenK.AllK
import Wide.FinOn
import KE.KStateDown
import Lean
import HandS.Base
import HandS.Call
import HandS.List
import HandS.Comp
import HandS.Ends
import HandS.Dict
import HandS.Iter
import HandS.Text
import HandS.More
import HandS.Words
import HandS.WordsExc
import HandS.WordsList
import HandS.WordsDict
import HandS.Exc
import HandS.Defaults
import HandS.DictComp
import HandS.IsInst
import HandS.Style
import HandS.StrMore
import HandS.Star
import HandS.Property
import HandS.Conv
import HandS.Head0
import HandS.Head1
import HandS.Head2
import HandS.HeadEnd
import HandS.HeadHook1
import HandS.HeadHook2
import KE.KDictZip
import KE.KDictList
import HandS.Walk
import HandS.Zip
import PySem.Challenge.RW_threecounts_k80_whole_all_alike_at_the_e
set_option Elab.async false
set_option linter.all false
set_option maxRecDepth 100000
set_option maxHeartbeats 0
noncomputable section
namespace Tc
open PySem PySem.Spec PyProof.Rows L2
/-! ## The text by places -/
def top (i : Nat) : Stmt := PySem.Challenge.pw_threecounts_k80_whole_all_alike_at_the_e.main.body.getD i (.Pass ⟨0, 0, 0, 0⟩)
abbrev s_is_integer : Stmt := top 37
abbrev s_is_char : Stmt := top 38
abbrev s_is_list : Stmt := top 39
abbrev s_is_kind : Stmt := top 40
abbrev s_is_name : Stmt := top 41
abbrev s_need_char : Stmt := top 49
abbrev s_need_kind : Stmt := top 50
abbrev s_need_chars : Stmt := top 51
abbrev s_wide : Stmt := top 52
abbrev s_counts_in : Stmt := top 53
abbrev s_Text_init : Stmt := inClass (top 54) 0
abbrev s_Text_chars : Stmt := inClass (top 54) 1
abbrev s_Text_len : Stmt := inClass (top 54) 7
abbrev s_need_text : Stmt := top 57
abbrev s_gaps_of : Stmt := top 65
abbrev s_normal_rows : Stmt := top 66
abbrev s_OwnRows_init : Stmt := inClass (top 68) 0
abbrev s_Delta_init : Stmt := inClass (top 69) 0
abbrev s_Delta_rows : Stmt := inClass (top 69) 1
abbrev s_Delta_length_before : Stmt := inClass (top 69) 2
abbrev s_Delta_need_fit : Stmt := inClass (top 69) 5
abbrev s_Delta_call : Stmt := inClass (top 69) 6
abbrev s_Delta_inverted : Stmt := inClass (top 69) 7
abbrev s_Delta_over : Stmt := inClass (top 69) 8
abbrev s_Delta_add : Stmt := inClass (top 69) 9
abbrev s_delta_of : Stmt := top 70
abbrev s_need_delta : Stmt := top 71
abbrev s_composed : Stmt := top 72
abbrev s_Marks_init : Stmt := inClass (top 78) 0
abbrev s_Marks_place : Stmt := inClass (top 78) 1
abbrev s_counted : Stmt := top 79
abbrev s_is_counted_row : Stmt := top 80
abbrev s_delta_from : Stmt := top 81
abbrev s_is_edit : Stmt := top 82
abbrev s_need_edits : Stmt := top 83
abbrev s_stands : Stmt := top 84
abbrev s_rows_of : Stmt := top 86
abbrev s_together : Stmt := top 87
abbrev s_Program_init : Stmt := inClass (top 92) 0
abbrev s_Program_version : Stmt := inClass (top 92) 3
abbrev s_Program_base : Stmt := inClass (top 92) 6
abbrev s_Program_text : Stmt := inClass (top 92) 7
abbrev s_Program_wait : Stmt := inClass (top 92) 8
abbrev s_Program_own_change : Stmt := inClass (top 92) 9
abbrev s_Program_edit : Stmt := inClass (top 92) 10
abbrev s_Program_send : Stmt := inClass (top 92) 13
abbrev s_Program_need_message : Stmt := inClass (top 92) 14
abbrev s_Program_receive : Stmt := inClass (top 92) 15
abbrev s_Program_take : Stmt := inClass (top 92) 16
abbrev s_Server_init : Stmt := inClass (top 101) 0
abbrev s_Server_need_version : Stmt := inClass (top 101) 2
abbrev s_Server_text : Stmt := inClass (top 101) 3
abbrev s_Server_join : Stmt := inClass (top 101) 6
abbrev s_Server_kind_of : Stmt := inClass (top 101) 8
abbrev s_Server_message : Stmt := inClass (top 101) 9
abbrev s_Server_submit : Stmt := inClass (top 101) 11
abbrev s_Company_init : Stmt := inClass (top 103) 0
abbrev s_Company_version : Stmt := inClass (top 103) 1
abbrev s_Company_server_text : Stmt := inClass (top 103) 2
abbrev s_Company_join : Stmt := inClass (top 103) 5
abbrev s_Company_program : Stmt := inClass (top 103) 7
abbrev s_Company_text : Stmt := inClass (top 103) 9
abbrev s_Company_base : Stmt := inClass (top 103) 10
abbrev s_Company_version_of : Stmt := inClass (top 103) 11
abbrev s_Company_queues : Stmt := inClass (top 103) 12
abbrev s_Company_edit : Stmt := inClass (top 103) 13
abbrev s_Company_send : Stmt := inClass (top 103) 16
abbrev s_Company_deliver_up : Stmt := inClass (top 103) 17
abbrev s_Company_deliver_down : Stmt := inClass (top 103) 18
abbrev s_Company_is_quiet : Stmt := inClass (top 103) 19
abbrev s_Company_settle : Stmt := inClass (top 103) 20
abbrev s_l_cell : Stmt := top 105
abbrev s_l_bag : Stmt := top 106
abbrev s_l_take : Stmt := top 107
abbrev s_l_width : Stmt := top 108
abbrev s_l_numbers : Stmt := top 109
abbrev s_l_send_all : Stmt := top 110
abbrev s_l_counted_edits : Stmt := top 111
abbrev s_l_fresh : Stmt := top 112
abbrev s_l_edited : Stmt := top 113
abbrev s_l_in_order : Stmt := top 114
abbrev s_l_end_right : Stmt := top 115
abbrev s_l_right : Stmt := top 116
abbrev s_law : Stmt := top 117
/-! ## A part of the heap: what the module's names reach, level by level -/
def nextOf (g : Addr → Option Obj) (as : List Addr) : List Addr := as.flatMap fun a => match g a with
  | some o => (He.refsD o).filter fun b => !(b == a)
  | none => []
def reachOf (g : Addr → Option Obj) : Nat → List Addr → List Addr
  | 0, as => as
  | n + 1, as => as ++ reachOf g n (nextOf g as)
def fragOf (g : Addr → Option Obj) : PySem.W.Frag := He.frG g (reachOf g 5 [mainGlobals])
/-! ## Facts beyond the hook's own -/
def propG (K : PySem.W.Frag) (x f : Str) : Addr := match PySem.W.findIn K (.ref (He.ga K x)) f with
  | some (some (.ref p)) => (match PySem.W.recIn K p "property" with
    | some (.ref g :: _) => g
    | _ => 0)
  | _ => 0
def propB (K : PySem.W.Frag) (x f : Str) : Bool := match PySem.W.findIn K (.ref (He.ga K x)) f with
  | some (some (.ref p)) => (decide (PySem.W.specialIn K (.ref p) "__get__" = some (some (.builtin "property.__get__"))) && decide (PySem.W.takesIn K (.ref p) = some true)) && (match PySem.W.recIn K p "property" with
    | some (.ref g :: _) => decide (g = propG K x f)
    | _ => false)
  | _ => false
theorem propB_ok {K : PySem.W.Frag} {x f : Str} (h : propB K x f = true) : ∃ p, PropOf K (He.ga K x) f p (propG K x f) := by
  unfold propB at h
  split at h
  · rename_i p hp
    obtain ⟨h1, h2⟩ := He.ba h
    obtain ⟨h3, h4⟩ := He.ba h1
    split at h2
    · rename_i g rest hg
      exact ⟨p, hp, of_decide_eq_true h3, of_decide_eq_true h4, rest, by rw [hg, of_decide_eq_true h2]⟩
    · cases h2
  · cases h
def insB (K : PySem.W.Frag) (x : Str) : Bool := decide (PySem.W.findIn K (.ref (He.ga K x)) "__class__" = some (some (.builtin "object.__class__"))) && (decide (PySem.W.specialIn K (.builtin "object.__class__") "__get__" = some (some (.builtin "getset_descriptor.__get__"))) && (decide (PySem.W.takesIn K (.builtin "object.__class__") = some true) && decide (PySem.W.mroIn K (He.ga K x) (.type "object") = some true)))
/-- what isinstance asks of a class of one's own -/
structure InsOk (K : PySem.W.Frag) (C : Addr) : Prop where
  ha : PySem.W.findIn K (.ref C) "__class__" = some (some (.builtin "object.__class__"))
  hn : PySem.W.specialIn K (.builtin "object.__class__") "__get__" = some (some (.builtin "getset_descriptor.__get__"))
  ht : PySem.W.takesIn K (.builtin "object.__class__") = some true
  hm : PySem.W.mroIn K C (.type "object") = some true
theorem insB_ok {K : PySem.W.Frag} {x : Str} (h : insB K x = true) : InsOk K (He.ga K x) := by
  obtain ⟨h1, h⟩ := He.ba h
  obtain ⟨h2, h⟩ := He.ba h
  obtain ⟨h3, h4⟩ := He.ba h
  exact ⟨of_decide_eq_true h1, of_decide_eq_true h2, of_decide_eq_true h3, of_decide_eq_true h4⟩
def callB (K : PySem.W.Frag) (x m : Str) : Bool := decide (PySem.W.findIn K (.ref (He.ga K x)) m = some (some (.ref (He.ma K (He.ga K x) m)))) && (PySem.W.isFn K (.ref (He.ma K (He.ga K x) m)) && PySem.W.fnIn K (He.ma K (He.ga K x) m))
/-! ## A def, found by a road of one's own -/
structure DefX where
  ad : PySem.W.Frag → Addr
  name : Str
  qual : Str
  st : Stmt
  dfl : List He.Dv := []
def lookF (K : PySem.W.Frag) (a : Addr) : He.FnW := match K.lookup a with
  | some ⟨_, _, .func fd, _⟩ => some (fd.name, fd.qualname, fd.params, fd.body, fd.scope, fd.globals, fd.closure, fd.builtins)
  | _ => none
def DefX.val (d : DefX) : He.FnW := some (d.name, d.qual, defArgs d.st, .stmts (defBody d.st), defScope d.st, mainGlobals, [], builtinsNs)
def DefX.good (K : PySem.W.Frag) (d : DefX) : Bool := PySem.W.keepIn K (.ref (d.ad K)) && (match K.lookup (d.ad K) with
  | some ⟨_, _, .func fd, _⟩ => PySem.W.codeIn K fd.code d.qual && He.dflB K fd.defaults (d.dfl.map (He.Dv.v K))
  | _ => false)
/-- a def of the text as it stands behind the top: its defaults dvs, no keyword-only defaults -/
abbrev FunX (K : PySem.W.Frag) (x qual : Str) (st : Stmt) (dvs : List V) (f : Addr) (fd : FuncData) : Prop := FunD K x qual (defArgs st) (defBody st) (defScope st) dvs [] f fd
theorem DefX.fun_ {K : PySem.W.Frag} {d : DefX} (e : lookF K (d.ad K) = d.val) (c : d.good K = true) : ∃ fd, FunX K d.name d.qual d.st (d.dfl.map (He.Dv.v K)) (d.ad K) fd := by
  obtain ⟨kp, c2⟩ := He.ba c
  unfold lookF at e
  cases q : K.lookup (d.ad K) with
  | none =>
    rw [q] at c2
    cases c2
  | some o =>
    obtain ⟨oc, od, dt, osl⟩ := o
    rw [q] at c2 e
    cases dt with
    | func fd =>
      obtain ⟨a1, a2, a3, a4, a5, a6, a7, a8, a9, a10, a11, a12, a13, a14, a15⟩ := fd
      have e2 : (some (a1, a2, a3, a4, a5, a6, a7, a15) : He.FnW) = some (d.name, d.qual, defArgs d.st, .stmts (defBody d.st), defScope d.st, mainGlobals, [], builtinsNs) := e
      simp only [Option.some.injEq, Prod.mk.injEq] at e2
      obtain ⟨h1, h2, h3, h4, h5, h6, h7, h8⟩ := e2
      subst h1 h2 h3 h4 h5 h6 h7 h8
      have c3 : (PySem.W.codeIn K a13 d.qual && He.dflB K a8 (d.dfl.map (He.Dv.v K))) = true := c2
      obtain ⟨k1, k2⟩ := He.ba c3
      exact ⟨_, ⟨oc, od, a8, a9, a10, a11, a12, a13, a14, osl, rfl, q, k1, He.dflB_ok k2, .inl rfl⟩, kp⟩
    | _ => cases c2
/-! ## The Hook: parts of facts and defs over one fragment -/
abbrev Part : Type := List (PySem.W.Frag → Bool) × List DefX
abbrev PObs : Type := Bool × List He.FnW
def Part.obs (p : Part) (K : PySem.W.Frag) : PObs := ((p.1.all fun f => f K) && p.2.all fun d => d.good K, p.2.map fun d => lookF K (d.ad K))
def Part.want (p : Part) : PObs := (true, p.2.map DefX.val)
def Told (ps : List Part) (K : PySem.W.Frag) : Prop := (ps.map fun (p : Part) => Part.obs p K) = ps.map Part.want
def hookX (ps : List Part) : PySem.W.Hook where
  α := List PObs
  obs := fun s => ps.map fun (p : Part) => Part.obs p (fragOf s.heap.get?)
  val := fun _ => ps.map Part.want
  says := fun _ h => ∃ K : PySem.W.Frag, K.In h ∧ Told ps K
  of := fun _ s e => ⟨fragOf s.heap.get?, He.frG_in, show Told ps _ from e⟩
  keeps := fun _ _ _ ⟨K, hK, c⟩ k => ⟨K, PySem.W.Frag.In.keeps hK k, c⟩
theorem Told.part {ps : List Part} {K : PySem.W.Frag} (c : Told ps K) (i : Nat) {p : Part} (h : ps[i]? = some p := by rfl) : p.obs K = p.want := by
  have e : (ps.map fun p => p.obs K)[i]? = (ps.map Part.want)[i]? := by rw [c]
  rw [List.getElem?_map, List.getElem?_map, h] at e
  exact Option.some.inj e
theorem Part.fact {p : Part} {K : PySem.W.Frag} (c : p.obs K = p.want) (i : Nat) {f : PySem.W.Frag → Bool} (h : p.1[i]? = some f := by rfl) : f K = true := by
  have c1 := (He.ba (show ((p.1.all fun f => f K) && p.2.all fun d => d.good K) = true from congrArg (fun z : PObs => z.1) c)).1
  exact List.all_eq_true.mp c1 f (List.mem_of_getElem? h)
theorem Part.def_ {p : Part} {K : PySem.W.Frag} (c : p.obs K = p.want) (i : Nat) {d : DefX} (h : p.2[i]? = some d := by rfl) : ∃ fd, FunX K d.name d.qual d.st (d.dfl.map (He.Dv.v K)) (d.ad K) fd := by
  have c2 := (He.ba (show ((p.1.all fun f => f K) && p.2.all fun d => d.good K) = true from congrArg (fun z : PObs => z.1) c)).2
  have e : p.2.map (fun d => lookF K (d.ad K)) = p.2.map DefX.val := congrArg (fun z : PObs => z.2) c
  have e2 : (p.2.map fun d => lookF K (d.ad K))[i]? = (p.2.map DefX.val)[i]? := by rw [e]
  rw [List.getElem?_map, List.getElem?_map, h] at e2
  exact DefX.fun_ (Option.some.inj e2) (List.all_eq_true.mp c2 d (List.mem_of_getElem? h))
/-! ## This program's parts -/
def fa0 : List (PySem.W.Frag → Bool) := [fun K => (He.Fa.glo "is_integer").ok K, fun K => (He.Fa.glo "is_char").ok K, fun K => (He.Fa.glo "is_list").ok K, fun K => (He.Fa.glo "is_kind").ok K, fun K => (He.Fa.glo "is_name").ok K, fun K => (He.Fa.glo "need_char").ok K, fun K => (He.Fa.glo "need_kind").ok K, fun K => (He.Fa.glo "need_chars").ok K, fun K => (He.Fa.glo "wide").ok K, fun K => (He.Fa.glo "counts_in").ok K, fun K => (He.Fa.glo "need_text").ok K, fun K => (He.Fa.glo "gaps_of").ok K, fun K => (He.Fa.glo "normal_rows").ok K, fun K => (He.Fa.glo "delta_of").ok K, fun K => (He.Fa.glo "need_delta").ok K, fun K => (He.Fa.glo "composed").ok K, fun K => (He.Fa.glo "counted").ok K, fun K => (He.Fa.glo "is_counted_row").ok K, fun K => (He.Fa.glo "delta_from").ok K, fun K => (He.Fa.glo "is_edit").ok K, fun K => (He.Fa.glo "need_edits").ok K, fun K => (He.Fa.glo "stands").ok K, fun K => (He.Fa.glo "rows_of").ok K, fun K => (He.Fa.glo "together").ok K, fun K => (He.Fa.glo "_law_cell").ok K, fun K => (He.Fa.glo "_law_bag").ok K, fun K => (He.Fa.glo "_law_take").ok K, fun K => (He.Fa.glo "_law_width").ok K, fun K => (He.Fa.glo "_law_numbers").ok K, fun K => (He.Fa.glo "_law_send_all").ok K, fun K => (He.Fa.glo "_law_counted_edits").ok K, fun K => (He.Fa.glo "_law_fresh").ok K, fun K => (He.Fa.glo "_law_edited").ok K, fun K => (He.Fa.glo "_law_in_order").ok K, fun K => (He.Fa.glo "_law_end_right").ok K, fun K => (He.Fa.glo "_law_right").ok K, fun K => (He.Fa.glo "law").ok K, fun K => (He.Fa.glo "Text").ok K, fun K => (He.Fa.glo "OwnRows").ok K, fun K => (He.Fa.glo "Delta").ok K, fun K => (He.Fa.glo "Marks").ok K, fun K => (He.Fa.glo "Program").ok K, fun K => (He.Fa.glo "Server").ok K]
def de0 : List DefX := [⟨fun K => He.ga K "is_integer", "is_integer", "is_integer", s_is_integer, []⟩, ⟨fun K => He.ga K "is_char", "is_char", "is_char", s_is_char, []⟩, ⟨fun K => He.ga K "is_list", "is_list", "is_list", s_is_list, []⟩, ⟨fun K => He.ga K "is_kind", "is_kind", "is_kind", s_is_kind, []⟩, ⟨fun K => He.ga K "is_name", "is_name", "is_name", s_is_name, []⟩, ⟨fun K => He.ga K "need_char", "need_char", "need_char", s_need_char, []⟩, ⟨fun K => He.ga K "need_kind", "need_kind", "need_kind", s_need_kind, []⟩, ⟨fun K => He.ga K "need_chars", "need_chars", "need_chars", s_need_chars, []⟩, ⟨fun K => He.ga K "wide", "wide", "wide", s_wide, []⟩, ⟨fun K => He.ga K "counts_in", "counts_in", "counts_in", s_counts_in, []⟩, ⟨fun K => He.ma K (He.ga K "Text") "__init__", "__init__", "Text.__init__", s_Text_init, []⟩, ⟨fun K => He.ma K (He.ga K "Text") "chars", "chars", "Text.chars", s_Text_chars, []⟩, ⟨fun K => He.ma K (He.ga K "Text") "__len__", "__len__", "Text.__len__", s_Text_len, []⟩, ⟨fun K => He.ga K "need_text", "need_text", "need_text", s_need_text, []⟩, ⟨fun K => He.ga K "gaps_of", "gaps_of", "gaps_of", s_gaps_of, []⟩, ⟨fun K => He.ga K "normal_rows", "normal_rows", "normal_rows", s_normal_rows, []⟩, ⟨fun K => He.ma K (He.ga K "OwnRows") "__init__", "__init__", "OwnRows.__init__", s_OwnRows_init, []⟩, ⟨fun K => He.ma K (He.ga K "Delta") "__init__", "__init__", "Delta.__init__", s_Delta_init, []⟩, ⟨fun K => He.ma K (He.ga K "Delta") "rows", "rows", "Delta.rows", s_Delta_rows, []⟩, ⟨fun K => propG K "Delta" "length_before", "length_before", "Delta.length_before", s_Delta_length_before, []⟩, ⟨fun K => He.ma K (He.ga K "Delta") "need_fit", "need_fit", "Delta.need_fit", s_Delta_need_fit, []⟩]
def pt0 : Part := (fa0, de0)
def fa1 : List (PySem.W.Frag → Bool) := [fun K => (He.Fa.glo "Company").ok K, fun K => (He.Fa.free "len").ok K, fun K => (He.Fa.free "isinstance").ok K, fun K => (He.Fa.free "int").ok K, fun K => (He.Fa.free "bool").ok K, fun K => (He.Fa.free "str").ok K, fun K => (He.Fa.free "list").ok K, fun K => (He.Fa.free "tuple").ok K, fun K => (He.Fa.free "sum").ok K, fun K => (He.Fa.free "range").ok K, fun K => (He.Fa.free "zip").ok K, fun K => (He.Fa.free "enumerate").ok K, fun K => (He.Fa.free "any").ok K, fun K => (He.Fa.free "all").ok K, fun K => (He.Fa.free "max").ok K, fun K => (He.Fa.free "min").ok K, fun K => (He.Fa.int "LAST_CHAR" 1114111).ok K, fun K => (He.Fa.int "LOW_GAP" 55296).ok K, fun K => (He.Fa.int "HIGH_GAP" 57343).ok K, fun K => (He.Fa.int "LONGEST_NAME" 8).ok K, fun K => (He.Fa.int "TWO" 128).ok K, fun K => (He.Fa.int "THREE" 2048).ok K, fun K => (He.Fa.int "FOUR" 65536).ok K, fun K => (He.Fa.int "MOST" 600).ok K, fun K => (He.Fa.int "MAX_ROWS_edits" 1300).ok K, fun K => (He.Fa.int "MAX_EDITS" 60).ok K, fun K => (He.Fa.int "MOST_COUNT" 2400).ok K, fun K => (He.Fa.int "GREATEST" 1000000000000000000000000000000).ok K, fun K => (He.Fa.int "MAX_VERSION" 1000).ok K, fun K => (He.Fa.str "LETTERS" "abcdefghijklmnopqrstuvwxyz").ok K, fun K => (He.Fa.str "BYTES_texts" "bytes").ok K, fun K => (He.Fa.str "UNITS_texts" "units").ok K, fun K => (He.Fa.str "CHARS_texts" "chars").ok K, fun K => (He.Fa.str "KEEP" "keep").ok K, fun K => (He.Fa.str "DROP" "drop").ok K, fun K => (He.Fa.str "PUT" "put").ok K, fun K => (He.Fa.str "ACK_programs" "ack").ok K, fun K => (He.Fa.str "CHANGE_programs" "change").ok K, fun K => (He.Fa.str "ACK_server" "ack").ok K, fun K => (He.Fa.str "CHANGE_server" "change").ok K, fun K => (He.Fa.glo "KINDS").ok K, fun K => He.tupB K "KINDS" [.str "bytes", .str "units", .str "chars"], fun K => (He.Fa.cls "Text").ok K]
def de1 : List DefX := [⟨fun K => He.ma K (He.ga K "Delta") "__call__", "__call__", "Delta.__call__", s_Delta_call, []⟩, ⟨fun K => He.ma K (He.ga K "Delta") "inverted", "inverted", "Delta.inverted", s_Delta_inverted, []⟩, ⟨fun K => He.ma K (He.ga K "Delta") "over", "over", "Delta.over", s_Delta_over, []⟩, ⟨fun K => He.ma K (He.ga K "Delta") "__add__", "__add__", "Delta.__add__", s_Delta_add, []⟩, ⟨fun K => He.ga K "delta_of", "delta_of", "delta_of", s_delta_of, []⟩, ⟨fun K => He.ga K "need_delta", "need_delta", "need_delta", s_need_delta, []⟩, ⟨fun K => He.ga K "composed", "composed", "composed", s_composed, []⟩, ⟨fun K => He.ma K (He.ga K "Marks") "__init__", "__init__", "Marks.__init__", s_Marks_init, []⟩, ⟨fun K => He.ma K (He.ga K "Marks") "place", "place", "Marks.place", s_Marks_place, []⟩, ⟨fun K => He.ga K "counted", "counted", "counted", s_counted, []⟩, ⟨fun K => He.ga K "is_counted_row", "is_counted_row", "is_counted_row", s_is_counted_row, []⟩, ⟨fun K => He.ga K "delta_from", "delta_from", "delta_from", s_delta_from, []⟩, ⟨fun K => He.ga K "is_edit", "is_edit", "is_edit", s_is_edit, []⟩, ⟨fun K => He.ga K "need_edits", "need_edits", "need_edits", s_need_edits, []⟩, ⟨fun K => He.ga K "stands", "stands", "stands", s_stands, []⟩, ⟨fun K => He.ga K "rows_of", "rows_of", "rows_of", s_rows_of, []⟩, ⟨fun K => He.ga K "together", "together", "together", s_together, []⟩, ⟨fun K => He.ma K (He.ga K "Program") "__init__", "__init__", "Program.__init__", s_Program_init, []⟩, ⟨fun K => propG K "Program" "version", "version", "Program.version", s_Program_version, []⟩, ⟨fun K => He.ma K (He.ga K "Program") "base", "base", "Program.base", s_Program_base, []⟩, ⟨fun K => He.ma K (He.ga K "Program") "text", "text", "Program.text", s_Program_text, []⟩]
def pt1 : Part := (fa1, de1)
def fa2 : List (PySem.W.Frag → Bool) := [fun K => (He.Fa.cls "OwnRows").ok K, fun K => (He.Fa.cls "Delta").ok K, fun K => (He.Fa.cls "Marks").ok K, fun K => (He.Fa.cls "Program").ok K, fun K => (He.Fa.cls "Server").ok K, fun K => (He.Fa.cls "Company").ok K, fun K => (He.Fa.mkr "Text").ok K, fun K => (He.Fa.mkr "OwnRows").ok K, fun K => (He.Fa.mkr "Delta").ok K, fun K => (He.Fa.mkr "Marks").ok K, fun K => (He.Fa.mkr "Program").ok K, fun K => (He.Fa.mkr "Server").ok K, fun K => (He.Fa.mkr "Company").ok K, fun K => (He.Fa.noat "Text" "own_chars").ok K, fun K => (He.Fa.noat "Text" "own_counts").ok K, fun K => (He.Fa.noat "OwnRows" "held").ok K, fun K => (He.Fa.noat "Delta" "own_rows").ok K, fun K => (He.Fa.noat "Delta" "puts").ok K, fun K => (He.Fa.noat "Delta" "drops").ok K, fun K => (He.Fa.noat "Delta" "own_before").ok K, fun K => (He.Fa.noat "Delta" "own_after").ok K, fun K => (He.Fa.noat "Marks" "numbers").ok K, fun K => (He.Fa.noat "Marks" "places").ok K, fun K => (He.Fa.noat "Program" "own_name").ok K, fun K => (He.Fa.noat "Program" "own_kind").ok K, fun K => (He.Fa.noat "Program" "own_version").ok K, fun K => (He.Fa.noat "Program" "base_text").ok K, fun K => (He.Fa.noat "Program" "own_text").ok K, fun K => (He.Fa.noat "Program" "sent").ok K, fun K => (He.Fa.noat "Program" "waiting").ok K, fun K => (He.Fa.noat "Program" "backs").ok K, fun K => (He.Fa.noat "Server" "texts").ok K, fun K => (He.Fa.noat "Server" "deltas").ok K, fun K => (He.Fa.noat "Server" "authors").ok K, fun K => (He.Fa.noat "Server" "kinds").ok K, fun K => (He.Fa.noat "Server" "spots").ok K, fun K => (He.Fa.noat "Company" "own_server").ok K, fun K => (He.Fa.noat "Company" "programs").ok K, fun K => (He.Fa.noat "Company" "ups").ok K, fun K => (He.Fa.noat "Company" "downs").ok K, fun K => (He.Fa.meth "Text" "chars").ok K, fun K => (He.Fa.meth "Text" "__len__").ok K, fun K => (He.Fa.meth "Delta" "rows").ok K]
def de2 : List DefX := [⟨fun K => He.ma K (He.ga K "Program") "wait", "wait", "Program.wait", s_Program_wait, []⟩, ⟨fun K => He.ma K (He.ga K "Program") "own_change", "own_change", "Program.own_change", s_Program_own_change, []⟩, ⟨fun K => He.ma K (He.ga K "Program") "edit", "edit", "Program.edit", s_Program_edit, []⟩, ⟨fun K => He.ma K (He.ga K "Program") "send", "send", "Program.send", s_Program_send, []⟩, ⟨fun K => He.ma K (He.ga K "Program") "need_message", "need_message", "Program.need_message", s_Program_need_message, []⟩, ⟨fun K => He.ma K (He.ga K "Program") "receive", "receive", "Program.receive", s_Program_receive, []⟩, ⟨fun K => He.ma K (He.ga K "Program") "take", "take", "Program.take", s_Program_take, []⟩, ⟨fun K => He.ma K (He.ga K "Server") "__init__", "__init__", "Server.__init__", s_Server_init, []⟩, ⟨fun K => He.ma K (He.ga K "Server") "need_version", "need_version", "Server.need_version", s_Server_need_version, []⟩, ⟨fun K => He.ma K (He.ga K "Server") "text", "text", "Server.text", s_Server_text, [.non]⟩, ⟨fun K => He.ma K (He.ga K "Server") "join", "join", "Server.join", s_Server_join, []⟩, ⟨fun K => He.ma K (He.ga K "Server") "kind_of", "kind_of", "Server.kind_of", s_Server_kind_of, []⟩, ⟨fun K => He.ma K (He.ga K "Server") "message", "message", "Server.message", s_Server_message, []⟩, ⟨fun K => He.ma K (He.ga K "Server") "submit", "submit", "Server.submit", s_Server_submit, []⟩, ⟨fun K => He.ma K (He.ga K "Company") "__init__", "__init__", "Company.__init__", s_Company_init, []⟩, ⟨fun K => propG K "Company" "version", "version", "Company.version", s_Company_version, []⟩, ⟨fun K => He.ma K (He.ga K "Company") "server_text", "server_text", "Company.server_text", s_Company_server_text, [.non]⟩, ⟨fun K => He.ma K (He.ga K "Company") "join", "join", "Company.join", s_Company_join, []⟩, ⟨fun K => He.ma K (He.ga K "Company") "program", "program", "Company.program", s_Company_program, []⟩, ⟨fun K => He.ma K (He.ga K "Company") "text", "text", "Company.text", s_Company_text, []⟩, ⟨fun K => He.ma K (He.ga K "Company") "base", "base", "Company.base", s_Company_base, []⟩]
def pt2 : Part := (fa2, de2)
def fa3 : List (PySem.W.Frag → Bool) := [fun K => (He.Fa.meth "Delta" "need_fit").ok K, fun K => (He.Fa.meth "Delta" "__call__").ok K, fun K => (He.Fa.meth "Delta" "inverted").ok K, fun K => (He.Fa.meth "Delta" "over").ok K, fun K => (He.Fa.meth "Delta" "__add__").ok K, fun K => (He.Fa.meth "Marks" "place").ok K, fun K => (He.Fa.meth "Program" "base").ok K, fun K => (He.Fa.meth "Program" "text").ok K, fun K => (He.Fa.meth "Program" "wait").ok K, fun K => (He.Fa.meth "Program" "own_change").ok K, fun K => (He.Fa.meth "Program" "edit").ok K, fun K => (He.Fa.meth "Program" "send").ok K, fun K => (He.Fa.meth "Program" "need_message").ok K, fun K => (He.Fa.meth "Program" "receive").ok K, fun K => (He.Fa.meth "Program" "take").ok K, fun K => (He.Fa.meth "Server" "need_version").ok K, fun K => (He.Fa.meth "Server" "text").ok K, fun K => (He.Fa.meth "Server" "join").ok K, fun K => (He.Fa.meth "Server" "kind_of").ok K, fun K => (He.Fa.meth "Server" "message").ok K, fun K => (He.Fa.meth "Server" "submit").ok K, fun K => (He.Fa.meth "Company" "server_text").ok K, fun K => (He.Fa.meth "Company" "join").ok K, fun K => (He.Fa.meth "Company" "program").ok K, fun K => (He.Fa.meth "Company" "text").ok K, fun K => (He.Fa.meth "Company" "base").ok K, fun K => (He.Fa.meth "Company" "version_of").ok K, fun K => (He.Fa.meth "Company" "queues").ok K, fun K => (He.Fa.meth "Company" "edit").ok K, fun K => (He.Fa.meth "Company" "send").ok K, fun K => (He.Fa.meth "Company" "deliver_up").ok K, fun K => (He.Fa.meth "Company" "deliver_down").ok K, fun K => (He.Fa.meth "Company" "settle").ok K, fun K => propB K "Delta" "length_before", fun K => propB K "Program" "version", fun K => propB K "Company" "version", fun K => propB K "Company" "is_quiet", fun K => insB K "Text", fun K => insB K "OwnRows", fun K => insB K "Delta", fun K => callB K "Delta" "__call__", fun K => PySem.W.selfFirst K (He.ga K "Delta")]
def de3 : List DefX := [⟨fun K => He.ma K (He.ga K "Company") "version_of", "version_of", "Company.version_of", s_Company_version_of, []⟩, ⟨fun K => He.ma K (He.ga K "Company") "queues", "queues", "Company.queues", s_Company_queues, []⟩, ⟨fun K => He.ma K (He.ga K "Company") "edit", "edit", "Company.edit", s_Company_edit, []⟩, ⟨fun K => He.ma K (He.ga K "Company") "send", "send", "Company.send", s_Company_send, []⟩, ⟨fun K => He.ma K (He.ga K "Company") "deliver_up", "deliver_up", "Company.deliver_up", s_Company_deliver_up, []⟩, ⟨fun K => He.ma K (He.ga K "Company") "deliver_down", "deliver_down", "Company.deliver_down", s_Company_deliver_down, []⟩, ⟨fun K => propG K "Company" "is_quiet", "is_quiet", "Company.is_quiet", s_Company_is_quiet, []⟩, ⟨fun K => He.ma K (He.ga K "Company") "settle", "settle", "Company.settle", s_Company_settle, []⟩, ⟨fun K => He.ga K "_law_cell", "_law_cell", "_law_cell", s_l_cell, []⟩, ⟨fun K => He.ga K "_law_bag", "_law_bag", "_law_bag", s_l_bag, []⟩, ⟨fun K => He.ga K "_law_take", "_law_take", "_law_take", s_l_take, []⟩, ⟨fun K => He.ga K "_law_width", "_law_width", "_law_width", s_l_width, []⟩, ⟨fun K => He.ga K "_law_numbers", "_law_numbers", "_law_numbers", s_l_numbers, []⟩, ⟨fun K => He.ga K "_law_send_all", "_law_send_all", "_law_send_all", s_l_send_all, []⟩, ⟨fun K => He.ga K "_law_counted_edits", "_law_counted_edits", "_law_counted_edits", s_l_counted_edits, []⟩, ⟨fun K => He.ga K "_law_fresh", "_law_fresh", "_law_fresh", s_l_fresh, []⟩, ⟨fun K => He.ga K "_law_edited", "_law_edited", "_law_edited", s_l_edited, []⟩, ⟨fun K => He.ga K "_law_in_order", "_law_in_order", "_law_in_order", s_l_in_order, []⟩, ⟨fun K => He.ga K "_law_end_right", "_law_end_right", "_law_end_right", s_l_end_right, []⟩, ⟨fun K => He.ga K "_law_right", "_law_right", "_law_right", s_l_right, []⟩, ⟨fun K => He.ga K "law", "law", "law", s_law, []⟩]
def pt3 : Part := (fa3, de3)
def parts : List Part := [pt0, pt1, pt2, pt3]
def nm0 : List PySem.Str := List.map Str.ofString ["_wall", "PlaceError", "MissingError", "StateError", "InvalidChar", "InvalidChars", "InvalidText", "InvalidKind", "MidChar", "BadPlace", "InvalidDelta", "InvalidRows", "InvalidRow", "BadRow", "InvalidEdit", "InvalidEdits", "Overlap", "InvalidName", "DuplicateName", "InvalidVersion", "InvalidMessage", "Mismatch", "InvalidFlag", "UnknownName", "UnknownMark", "NothingToDeliver", "BYTES_validation", "UNITS_validation", "CHARS_validation", "KINDS"]
def nm1 : List PySem.Str := List.map Str.ofString ["LETTERS", "LAST_CHAR", "LOW_GAP", "HIGH_GAP", "LONGEST_NAME", "is_integer", "is_char", "is_list", "is_kind", "is_name", "BYTES_texts", "UNITS_texts", "CHARS_texts", "TWO", "THREE", "FOUR", "need_char", "need_kind", "need_chars", "wide", "counts_in", "Text", "chars_of", "need_more", "need_text", "KEEP", "DROP", "PUT", "MAX_ROWS_deltas", "MOST"]
def nm2 : List PySem.Str := List.map Str.ofString ["is_row", "gaps_of", "normal_rows", "GivenRows", "OwnRows", "Delta", "delta_of", "need_delta", "composed", "MAX_ROWS_edits", "MAX_EDITS", "MOST_COUNT", "GREATEST", "Marks", "counted", "is_counted_row", "delta_from", "is_edit", "need_edits", "stands", "clash", "rows_of", "together", "MAX_VERSION", "ACK_programs", "CHANGE_programs", "Program", "FAR", "Place", "need_same"]
def nm3 : List PySem.Str := List.map Str.ofString ["ACK_server", "CHANGE_server", "moved_spot", "Server", "Company", "_law_cell", "_law_bag", "_law_take", "_law_width", "_law_numbers", "_law_send_all", "_law_counted_edits", "_law_fresh", "_law_edited", "_law_in_order", "_law_end_right", "_law_right"]
def names : List PySem.Str := nm0 ++ (nm1 ++ (nm2 ++ (nm3)))
abbrev R : PySem.W.OpenRow := PySem.W.OpenLaw.row PySem.Challenge.rw_threecounts_k80_whole_all_alike_at_the_e
abbrev hk : PySem.W.Hook := hookX parts
def ob (s : PySem.W.SharedT) : List PObs := parts.map fun p => p.obs (fragOf (HandSHeadRun.getT s))
theorem ob_eq (s : PySem.W.SharedT) : ob s = hk.obs s.abs := by
  have e : HandSHeadRun.getT s = s.abs.heap.get? := funext (HandSHeadRun.getT_eq s)
  unfold ob
  rw [e] <;> rfl
abbrev qv : Program := PySem.W.view R.prog [117]
def endQ (w : World) (os : OsState) := HandSHeadRun.endF (HandSHeadRun.stepQ (HandSHeadRun.denQ HandSHeadRun.tabQ) R.prog w) 14000 R.prog w os
section
open PySem.W PySem.Calls
theorem run_looks (w : World) (os : OsState) : (endQ w os).map (fun s => HandSHeadRun.looksF R.prog (boot_heap w.params) s.abs) = some true := by
  kernel_rfl
theorem run_seen (w : World) (os : OsState) : (endQ w os).map (fun s => HandSHeadRun.seenQ qv names (importedModules R.prog.main.body) (fun s => xlAt qv [] s && recOk R.toRowW.records s) s.abs) = some (openGood qv names) := by
  kernel_rfl
theorem run_p0 (w : World) (os : OsState) : (endQ w os).map (fun s => pt0.obs (fragOf (HandSHeadRun.getT s))) = some pt0.want := by
  kernel_rfl
theorem run_p1 (w : World) (os : OsState) : (endQ w os).map (fun s => pt1.obs (fragOf (HandSHeadRun.getT s))) = some pt1.want := by
  kernel_rfl
theorem run_p2 (w : World) (os : OsState) : (endQ w os).map (fun s => pt2.obs (fragOf (HandSHeadRun.getT s))) = some pt2.want := by
  kernel_rfl
theorem run_p3 (w : World) (os : OsState) : (endQ w os).map (fun s => pt3.obs (fragOf (HandSHeadRun.getT s))) = some pt3.want := by
  kernel_rfl
end
theorem map_at {α β : Type} {o : Option α} {f : α → β} {b : β} {a : α} (h : o.map f = some b) (e : o = some a) : f a = b := by
  rw [e] at h
  exact Option.some.inj h
theorem run (w : World) : HandSHeadRun.RunEq R qv hk ob 14000 names w := by
  intro os
  obtain ⟨s, hs, h1⟩ := Option.map_eq_some_iff.mp (run_looks w os)
  have h2 := map_at (run_seen w os) hs
  have p0 := map_at (run_p0 w os) hs
  have p1 := map_at (run_p1 w os) hs
  have p2 := map_at (run_p2 w os) hs
  have p3 := map_at (run_p3 w os) hs
  show (endQ w os).map _ = _
  rw [hs]
  refine congrArg some (Prod.ext h1 (Prod.ext h2 ?_))
  show ([pt0.obs (fragOf (HandSHeadRun.getT s)), pt1.obs (fragOf (HandSHeadRun.getT s)), pt2.obs (fragOf (HandSHeadRun.getT s)), pt3.obs (fragOf (HandSHeadRun.getT s))] : List PObs) = [pt0.want, pt1.want, pt2.want, pt3.want]
  rw [p0, p1, p2, p3]
end Tc
end
/-! # Rules of our own over the hand layer -/
namespace Tc
open PySem PySem.Spec PyProof.Rows L2
/-! ## Contracts: what a caller knows of a def -/
/-- a global def -/
structure GF (P : Program) (w : World) (K : PySem.W.Frag) (mg : Str → Option Value) (base : Heap) (k : Nat) (x : Str) (ps : List Str) (sp : Sp) : Prop where
  ex : ∃ f fd, FnOk P w K mg base CX0 k f fd ps sp ∧ mg x = some (.ref f) ∧ PySem.W.keepIn K (.ref f) = true ∧ Binds K fd ps []
/-- a method of the class at C; dvs: its defaults that no call gives -/
structure MF (P : Program) (w : World) (K : PySem.W.Frag) (mg : Str → Option Value) (base : Heap) (k : Nat) (C : Addr) (m : Str) (ps : List Str) (dvs : List V) (sp : Sp) : Prop where
  ex : ∃ f fd ds, FnOk P w K mg base CX0 k f fd ps sp ∧ Meth K C m f ∧ Binds K fd ps ds ∧ Vals dvs ds
/-- a method called with keywords behind n written arguments -/
structure MK (P : Program) (w : World) (K : PySem.W.Frag) (mg : Str → Option Value) (base : Heap) (k : Nat) (C : Addr) (m : Str) (ps : List Str) (n : Nat) (ks : List Str) (gV : List V → List V → List V) (sp : Sp) : Prop where
  ex : ∃ f fd g, FnOk P w K mg base CX0 k f fd ps sp ∧ Meth K C m f ∧ KBn K fd ps n ks g gV
/-- a class with its __init__ -/
structure KF (P : Program) (w : World) (K : PySem.W.Frag) (mg : Str → Option Value) (base : Heap) (k : Nat) (x : Str) (C : Addr) (ps : List Str) (sp : Sp) : Prop where
  ex : ∃ f fd, FnOk P w K mg base CX0 k f fd ps sp ∧ Mk K C f ∧ mg x = some (.ref C) ∧ Binds K fd ps []
/-- a property -/
structure PF (P : Program) (w : World) (K : PySem.W.Frag) (mg : Str → Option Value) (base : Heap) (k : Nat) (C : Addr) (m : Str) (sp : Sp) : Prop where
  ex : ∃ p g fd, PropOf K C m p g ∧ FnOk P w K mg base CX0 k g fd ["self"] sp ∧ Binds K fd ["self"] []
/-- an instance of the class at C is called with one argument -/
structure CF (P : Program) (w : World) (K : PySem.W.Frag) (mg : Str → Option Value) (base : Heap) (k : Nat) (C : Addr) (sp : Sp) : Prop where
  ex : ∃ g fd ps, StX.CallO K C g ∧ FnOk P w K mg base CX0 k g fd ps sp ∧ Binds K fd ps []
/-- an operator's or len's special method -/
structure SF (P : Program) (w : World) (K : PySem.W.Frag) (mg : Str → Option Value) (base : Heap) (k : Nat) (C : Addr) (m : Str) (sp : Sp) : Prop where
  ex : ∃ f fd ps, FnOk P w K mg base CX0 k f fd ps sp ∧ Meth K C m f ∧ Binds K fd ps [] ∧ PySem.W.selfFirst K C = true
theorem raw0 {P : Program} {w : World} {K : PySem.W.Frag} {mg : Str → Option Value} {base : Heap} {k : Nat} {f : Addr} {fd : FuncData} {ps : List Str} {sp : Sp} (F : FnOk P w K mg base CX0 k f fd ps sp) (hb : Binds K fd ps []) : FnR P w K mg base CX0 k f sp :=
  (F.raw hb .nil).imp fun vs H Q E h => by
    rw [List.append_nil]
    exact h
/-- a comprehension without tests -/
theorem yesT {A B : Hp → Prop} {σ : L2.St} {H : Hp} (h : A H) : tYes σ H fun b H3 => if b = true then A H3 else B H3 := iteT (A := A H) (B := B H) h
theorem hu1 {k : Nat} {A : Around} (r : Room k A) : A.units + 1 < cLine := by have := r.un; omega
theorem pe_never {X : Cx} {e : Expr} : PE X e (fun _ _ _ => False) := ⟨fun _ _ _ _ _ _ h => h.elim⟩
theorem pt_never {X : Cx} {e : Expr} : PT X e (fun _ _ _ => False) := ⟨fun _ _ _ _ _ _ h => h.elim⟩
section
variable {X : Cx} {pos p apos : Pos} {x m : Str} {o e : Expr} {es : List Expr} {kws : List Keyword} {ta tf : TE} {t tk : TA} {j k : Nat} {C : Addr} {ps ks : List Str} {sp : Sp} {dvs : List V}
theorem pe_globE {v : V} (h : ∃ u, X.mg x = some u ∧ RelV v u) (hg : Gl X x := by rfl) (hd : (x == ("__debug__" : Str)) = false := by decide) : PE X (.Name x pos) (tC v) := by
  obtain ⟨u, hm, r⟩ := h
  exact pe_glob hg hm r hd
theorem pe_gf (G : GF X.prog X.w X.K X.mg X.base k x ps sp) (hr : Room j X.A) (ha : PA X (e :: es) t) (hk : k ≤ j := by decide) (hg : Gl X x := by rfl) (hdb : (x == ("__debug__" : Str)) = false := by decide)
    (he : starEach (e :: es) X.env = (false, eval e X.env) :: starEach es X.env := by rfl) (hpl : (backTo pos (starEach es X.env)).any (·.1) = false := by rfl) : PE X (.Call (.Name x p) (e :: es) [] pos) (tCall sp [] E0 t) := by
  obtain ⟨f, fd, F, hm, hkp, hb⟩ := G.ex
  exact pe_call F (hr.mono hk) hg hm hkp hb .nil pass0 ha hdb he hpl
theorem pe_mf {pl : Sem Bool} (G : MF X.prog X.w X.K X.mg X.base k C m ps dvs sp) (c : Cls X.K C) (hr : Room j X.A) (he : PE X o ta) (ha : PA X (e :: es) t) (hk : k ≤ j := by decide)
    (hst : starEach (e :: es) X.env = (false, eval e X.env) :: starEach es X.env := by rfl) (hpl : (backTo pos (starEach es X.env)).any (·.1) = false := by rfl)
    (ht : eval (.Call (.Attribute o m apos) (e :: es) [] pos) X.env = (do
      let ov ← eval o X.env
      standAt apos.atName
      let (f, first) ← holding [ov] (getMethod ov m pl)
      callWith pos f first (backTo pos (starEach (e :: es) X.env)) (backToKw pos (keywordEach [] X.env))) := by rfl) :
    PE X (.Call (.Attribute o m apos) (e :: es) [] pos) (tMeth C m sp dvs E0 ta t) := by
  obtain ⟨f, fd, ds, F, hm, hb, hv⟩ := G.ex
  exact pe_meth he c hm F (hr.mono hk) hb hv pass0 ha hst hpl ht
theorem pe_mf0 {pl : Sem Bool} (G : MF X.prog X.w X.K X.mg X.base k C m ps dvs sp) (c : Cls X.K C) (hr : Room j X.A) (he : PE X o ta) (hk : k ≤ j := by decide)
    (ht : eval (.Call (.Attribute o m apos) [] [] pos) X.env = (do
      let ov ← eval o X.env
      standAt apos.atName
      let (f, first) ← holding [ov] (getMethod ov m pl)
      callWith pos f first (backTo pos (starEach [] X.env)) (backToKw pos (keywordEach [] X.env))) := by rfl) :
    PE X (.Call (.Attribute o m apos) [] [] pos) (tMeth C m sp dvs E0 ta tNil) := by
  obtain ⟨f, fd, ds, F, hm, hb, hv⟩ := G.ex
  exact pe_meth0 he c hm F (hr.mono hk) hb hv pass0 ht
theorem pe_kf (G : KF X.prog X.w X.K X.mg X.base k x C ps sp) (hr : Room j X.A) (ha : PA X (e :: es) t) (hk : k + 1 ≤ j := by decide) (hg : Gl X x := by rfl) (hdb : (x == ("__debug__" : Str)) = false := by decide)
    (he : starEach (e :: es) X.env = (false, eval e X.env) :: starEach es X.env := by rfl) (hpl : (backTo pos (starEach es X.env)).any (·.1) = false := by rfl) : PE X (.Call (.Name x p) (e :: es) [] pos) (tMake C sp [] E0 t) := by
  obtain ⟨f, fd, F, M, hm, hb⟩ := G.ex
  exact pe_make M F (hr.mono hk) hg hm hb .nil pass0 ha hdb he hpl
theorem pe_pf {f : Str} (G : PF X.prog X.w X.K X.mg X.base k C f sp) (c : Cls X.K C) (hr : Room j X.A) (he : PE X e ta) (hk : k + 1 ≤ j := by decide) (hab : attributeBase e f X.env (eval e X.env) = eval e X.env := by rfl) :
    PE X (.Attribute e f pos) (tProp C sp [] E0 ta) := by
  obtain ⟨q, g, fd, hp, F, hb⟩ := G.ex
  exact pe_prop he c hp F (hr.mono hk) hb .nil (fun _ _ _ _ _ _ _ h => h.elim) hab
/-! ### a method called with keywords -/
def tMethK (C : Addr) (m : Str) (n kn : Nat) (sp : Sp) (gV : List V → List V → List V) (ta : TE) (t tk : TA) : TE := fun σ H Q => ta σ H fun y H1 => ∃ a dx fs, y = .ref a ∧ H1 a = some (.ins C dx fs) ∧ fs.lookup m = none ∧
  t σ H1 fun vs H2 => tk σ H2 fun zs H3 => vs.length + 1 = n ∧ zs.length = kn ∧ sp (gV (.ref a :: vs) zs) H3 Q E0
theorem pe_mk {pl : Sem Bool} {n : Nat} {gV : List V → List V → List V} (G : MK X.prog X.w X.K X.mg X.base k C m ps n ks gV sp) (c : Cls X.K C) (hr : Room j X.A) (he : PE X o ta) (ha : PA X (e :: es) t) (hkw : PK X kws tk) (hk : k ≤ j := by decide)
    (hall : (backToKw pos (keywordEach kws X.env)).all (·.1.isSome) = true := by rfl) (hks : (backToKw pos (keywordEach kws X.env)).filterMap (·.1) = ks := by rfl)
    (hst : starEach (e :: es) X.env = (false, eval e X.env) :: starEach es X.env := by rfl)
    (hpl : ((backTo pos (starEach (e :: es) X.env)).any (·.1) || (backToKw pos (keywordEach kws X.env)).any (·.1.isNone)) = false := by rfl)
    (ht : eval (.Call (.Attribute o m apos) (e :: es) kws pos) X.env = (do
      let ov ← eval o X.env
      standAt apos.atName
      let (f, first) ← holding [ov] (getMethod ov m pl)
      callWith pos f first (backTo pos (starEach (e :: es) X.env)) (backToKw pos (keywordEach kws X.env))) := by rfl) :
    PE X (.Call (.Attribute o m apos) (e :: es) kws pos) (tMethK C m n ks.length sp gV ta t tk) := by
  obtain ⟨f, fd, g, F, hm, hb⟩ := G.ex
  refine ⟨fun pins s σ H Q I h => ?_⟩
  refine PySem.W.methodCall_KW (pl := pl) (thn (he.run pins s σ H _ I h) fun u s1 ⟨y, H1, I1, rx, a, dx, fs, ex, ea, l, q⟩ => ?_) ht
  subst ex
  obtain rfl : u = Value.ref a := rx
  refine getmeth_ok I1 ea c hm l ?_
  refine PySem.W.callWith_KW (first := [.ref a]) (h₀ := X.base) I.ok.mod.kin hm.kp hall (thn (ha.run pos pins s1 σ H1 _ I1 q) fun us s2 ⟨vs, H2, I2, r, q2⟩ => ?_) hpl hst
  refine thn (hkw.run pos pins s2 σ H2 _ I2 q2) fun ws s3 ⟨zs, H3, I3, rz, l1, l2, q3⟩ => ⟨I3.kIn, ?_⟩
  rw [hks]
  exact run_fnN (us := .ref a :: us) (vs := .ref a :: vs) F (hr.mono hk) hb pass0 I3 (.cons rfl r) rz l1 l2 q3
/-! ### instances that are called -/
theorem pe_cf (G : CF X.prog X.w X.K X.mg X.base k C sp) (hr : Room j X.A) {fe : Expr} (hf : PE X fe tf) (ha : PA X (e :: es) t) (hk : k ≤ j := by decide)
    (ht : eval (.Call fe (e :: es) [] pos) X.env = (do callWith pos (← eval fe X.env) [] (backTo pos (starEach (e :: es) X.env)) (backToKw pos (keywordEach [] X.env))) := by rfl)
    (he : starEach (e :: es) X.env = (false, eval e X.env) :: starEach es X.env := by rfl) (hpl : (backTo pos (starEach es X.env)).any (·.1) = false := by rfl) : PE X (.Call fe (e :: es) [] pos) (StX.tCallO X C sp E0 tf t) := by
  obtain ⟨g, fd, qs, c, F, hb⟩ := G.ex
  exact StX.pe_callO hf c (raw0 F hb) (hr.mono hk) pass0 ha ht he hpl
/-- o.f(e), o.f an attribute that holds such an instance -/
def tCallA (X : Cx) (C : Addr) (sp : Sp) (f : Str) (ta : TE) (t : TA) : TE := fun σ H Q => ta σ H fun y H1 => ∃ a D dx fs b, y = .ref a ∧ H1 a = some (.ins D dx fs) ∧ Cls X.K D ∧ NoAttr X.K D f ∧ fs.lookup f = some (.ref b) ∧
  t σ H1 fun vs H2 => StX.InsC X H2 b C ∧ sp (V.ref b :: vs) H2 Q E0
theorem pe_cfA {pl : Sem Bool} {f : Str} (G : CF X.prog X.w X.K X.mg X.base k C sp) (hr : Room j X.A) (ho : PE X o ta) (ha : PA X (e :: es) t) (hk : k ≤ j := by decide)
    (he : starEach (e :: es) X.env = (false, eval e X.env) :: starEach es X.env := by rfl) (hpl : (backTo pos (starEach es X.env)).any (·.1) = false := by rfl)
    (ht : eval (.Call (.Attribute o f apos) (e :: es) [] pos) X.env = (do
      let ov ← eval o X.env
      standAt apos.atName
      let (f, first) ← holding [ov] (getMethod ov f pl)
      callWith pos f first (backTo pos (starEach (e :: es) X.env)) (backToKw pos (keywordEach [] X.env))) := by rfl) :
    PE X (.Call (.Attribute o f apos) (e :: es) [] pos) (tCallA X C sp f ta t) := by
  obtain ⟨g, fd, qs, c, F, hb⟩ := G.ex
  refine ⟨fun pins s σ H Q I h => ?_⟩
  refine PySem.W.methodCall_KW (pl := pl) (thn (ho.run pins s σ H _ I h) fun u s1 ⟨y, H1, I1, rx, a, D, dx, fs, b, ex, ea, cD, nD, l, q⟩ => ?_) ht
  subst ex
  obtain rfl : u = Value.ref a := rx
  obtain ⟨mA, O, _⟩ := ins_get I1.hok ea
  obtain ⟨od, J, _⟩ := O.look
  refine PySem.W.method_usual I1.kIn J (PySem.W.plainGet_of (cD.get f)).1 (PySem.W.plainGet_of (cD.get f)).2 nD rfl ?_
  refine getattr_ok I1 ea cD nD l fun u2 s2 I2 ru => ?_
  obtain rfl : u2 = Value.ref b := ru
  refine StX.callO_with (thn (ha.run pos pins s2 σ H1 _ I2 q) fun us s3 ⟨vs, H2, I3, r, hi, q2⟩ => ?_) he hpl
  obtain ⟨ox, od2, J2, hd⟩ := StX.insC_at I3 hi
  exact ⟨⟨C, ox, od2, J2, hd⟩, StX.run_callO c (raw0 F hb) (hr.mono hk) pass0 I3 hi r q2⟩
/-! ### a + b by an own __add__, len(x) by an own __len__ -/
theorem cmp_back {v : V} {u : Value} {Q : Value → Shared → Prop} {s : Shared} (r : RelV v u) (h : Q u s) : PySem.W.CmpBack Q u s := by
  have hn : u ≠ .notImplemented := fun e => by
    subst e
    cases v with
    | non => cases r
    | bl _ => cases r
    | int _ => obtain ⟨t, q⟩ := r; cases q
    | str _ => obtain ⟨t, q⟩ := r; cases q
    | byt _ => obtain ⟨t, q⟩ := r; cases q
    | flt _ => obtain ⟨t, q⟩ := r; cases q
    | ref _ => cases r
    | ty _ => cases r
  cases u <;> first | exact h | exact absurd rfl hn
/-- two instances of C -/
def rAddOwn (C : Addr) (sp : Sp) : R2 := fun x y H Q => ∃ a b dx fs dy gs, x = .ref a ∧ y = .ref b ∧ H a = some (.ins C dx fs) ∧ H b = some (.ins C dy gs) ∧ sp [.ref a, .ref b] H Q E0
theorem op_addOwn (G : SF X.prog X.w X.K X.mg X.base k C "__add__" sp) (hr : Room j X.A) (hk : k ≤ j := by decide) : OpR X (binaryOp .Add) (rAddOwn C sp) := by
  obtain ⟨f, fd, qs, F, hm, hb, hsf⟩ := G.ex
  intro pins s σ H x y u v Q I rx ry h
  obtain ⟨a, b, dx, fs, dy, gs, ex, ey, ea, eb, q⟩ := h
  subst ex
  subst ey
  obtain rfl : u = Value.ref a := rx
  obtain rfl : v = Value.ref b := ry
  obtain ⟨m, hF⟩ := I.fr
  obtain ⟨mA, O, _⟩ := ins_get I.hok ea
  obtain ⟨od, J, _⟩ := O.look
  obtain ⟨mB, O2, _⟩ := ins_get I.hok eb
  obtain ⟨od2, J2, _⟩ := O2.look
  refine PySem.W.binop_K hF I.ok.mod.kin J J2.type hsf hm.at_ hm.fn (wpAny_mono (run_fn (us := [.ref a, .ref b]) (vs := [.ref a, .ref b]) (dvs := []) (ds := []) F (hr.mono hk) hb .nil pass0 I (.cons rfl (.cons rfl .nil)) q) (fun r s' hq => ?_) fun _ _ z => z)
  obtain ⟨z, H', I', rz, qz⟩ := hq
  exact cmp_back rz ⟨z, H', I', rz, qz⟩
def rLenOwn (C : Addr) (sp : Sp) : List V → Hp → VK → Prop := fun xs H Q => ∃ a dx fs, xs = [.ref a] ∧ H a = some (.ins C dx fs) ∧ sp [.ref a] H (fun v H' => ∃ n : Int, v = .int n ∧ (0 ≤ n ∧ n < 2 ^ 63) ∧ Q (.int n) H') E0
theorem call_lenOwn (G : MF X.prog X.w X.K X.mg X.base k C "__len__" ["self"] [] sp) (hr : Room j X.A) (hk : k + 1 ≤ j := by decide) : CallR X (.builtin "len") (rLenOwn C sp) := by
  obtain ⟨f, fd, ds, F, hm, hb, hv⟩ := G.ex
  obtain rfl : ds = [] := by cases hv; rfl
  intro pins s σ H xs us Q I r h
  obtain ⟨a, dx, fs, ex, ea, q⟩ := h
  subst ex
  obtain ⟨u, rfl, ru⟩ := Vals.one r
  obtain rfl : u = Value.ref a := ru
  obtain ⟨m, hF⟩ := I.fr
  obtain ⟨mA, O, _⟩ := ins_get I.hok ea
  obtain ⟨od, J, _⟩ := O.look
  have hl : ([Value.ref a] ++ ([] : List Value)).length = (["self"] : List Str).length := rfl
  refine PySem.W.len_K hF I.ok.mod.kin J hm.at_ hm.fn (wpAny_call ?_)
  refine codeAny_mono (F.run X.A.in1 X.stack s H ⟨[.ref a], []⟩ ([.ref a] ++ []) [.ref a] _ E0 ((hr.mono hk).in1) I.env0.in1 (hb s [.ref a] I.kIn hl) (show Vals [V.ref a] ([Value.ref a] ++ []) from .cons rfl .nil) q) fun rr s' hq => ?_
  cases rr with
  | error er => exact hq.elim
  | ok fl =>
    cases fl with
    | ret u =>
      obtain ⟨v, H', I3, rv, n, ev, hn, qn⟩ := I.after hq
      subst ev
      obtain ⟨t, rfl⟩ := (show ∃ t, u = Value.int n t from rv)
      exact ⟨hn, .int n, H', I3.tok _, ⟨_, rfl⟩, qn⟩
    | next => exact hq.elim
    | brk => exact hq.elim
    | cont => exact hq.elim
/-! ### o.f as a target beside others -/
def gFld (K : PySem.W.Frag) (ta : TE) (f : Str) : TG := fun v σ H Q => ta σ H fun y H1 => ∃ a C dx fs, y = .ref a ∧ H1 a = some (.ins C dx fs) ∧ Cls K C ∧ NoAttr K C f ∧ fs.length < 1000 ∧ Q σ (upd H1 a (.ins C dx (putF f v fs)))
theorem pg_fld {f : Str} (ho : PE X o ta) : PG X (.Attribute o f pos) (gFld X.K ta f) := by
  refine ⟨fun pins s σ H v u Q I r h => ?_⟩
  show wpAny _ _ (do
    let ov ← holding [u] (eval o X.env)
    standAt pos.atName
    holding [u, ov] (setAttr ov f u)
    release [u, ov] []) _ _ _
  refine wpAny_bind (wpAny_holding (thn (ho.run pins s σ H _ I h) fun ov s1 ⟨y, H1, I1, r1, a, C, dx, fs, ex, ea, c, n, l, q⟩ => ?_))
  subst ex
  obtain rfl : ov = Value.ref a := r1
  refine wpAny_bind (wpAny_standAt (wpAny_bind (wpAny_holding (setattr_ok I1 ea c n l r fun s2 I2 => ?_))))
  exact wpAny_release ⟨σ, _, I2, q⟩
/-! ### lists compared with an empty one -/
def rEqNil (K : PySem.W.Frag) : R2 := fun x y H Q => ∃ a b xs, x = .ref a ∧ y = .ref b ∧ SqL K H a xs ∧ SqL K H b [] ∧ Q (.bl xs.isEmpty) H
def rNeNil (K : PySem.W.Frag) : R2 := fun x y H Q => ∃ a b xs, x = .ref a ∧ y = .ref b ∧ SqL K H a xs ∧ SqL K H b [] ∧ Q (.bl (!xs.isEmpty)) H
theorem op_eqNil (hu : X.A.units < cLine) : OpR X (compareOp .Eq) (rEqNil X.K) := by
  intro pins s σ H x y u v Q I rx ry h
  obtain ⟨a, b, xs, ex, ey, ha, hb, q⟩ := h
  subst ex
  subst ey
  obtain rfl : u = Value.ref a := rx
  obtain rfl : v = Value.ref b := ry
  obtain ⟨its, rv, pa, _⟩ := I.list ha
  obtain ⟨its2, rv2, pb, _⟩ := I.list hb
  cases rv2
  cases rv with
  | nil => exact SeqAt.eq_listAt (e := fun _ => true) pa.isList pb.isList rfl hu (fun j h1 _ => absurd h1 (Nat.not_lt_zero _)) ⟨.bl true, H, I, rfl, q⟩
  | cons r rr => exact SeqAt.eq_list_lengthsAt pa.isList pb.isList (by simp) hu ⟨.bl false, H, I, rfl, q⟩
theorem op_neNil (hu : X.A.units < cLine) : OpR X (compareOp .NotEq) (rNeNil X.K) := by
  intro pins s σ H x y u v Q I rx ry h
  obtain ⟨a, b, xs, ex, ey, ha, hb, q⟩ := h
  subst ex
  subst ey
  obtain rfl : u = Value.ref a := rx
  obtain rfl : v = Value.ref b := ry
  obtain ⟨its, rv, pa, _⟩ := I.list ha
  obtain ⟨its2, rv2, pb, _⟩ := I.list hb
  cases rv2
  cases rv with
  | nil => exact SeqAt.RcNeAt.lists (e := fun _ => true) pa.isList pb.isList rfl hu (fun j h1 _ => absurd h1 (Nat.not_lt_zero _)) _ _ _ _ ⟨.bl false, H, I, rfl, q⟩
  | cons r rr => exact SeqAt.RcNeAt.lists_lengths pa.isList pb.isList (by simp) hu _ _ _ _ ⟨.bl true, H, I, rfl, q⟩
/-! ### rules with the fragment named (a comprehension's elements may not name its own block) -/
theorem pi_listN (K : PySem.W.Frag) {tg l : Expr} {tl : TE} (hl : PE X l tl) (hK : X.K = K := by rfl) : PI X tg l (iList K tl) := hK ▸ pi_list hl
theorem cr_sumN (K : PySem.W.Frag) (hc : X.calm = true := by rfl) (hK : X.K = K := by rfl) : CallR X (.builtin "sum") (rSum K) := hK ▸ cr_sum hc
theorem cr_anyN (K : PySem.W.Frag) (hc : X.calm = true := by rfl) (hK : X.K = K := by rfl) : CallR X (.builtin "any") (rAny K) := hK ▸ cr_any hc
theorem cr_allN (K : PySem.W.Frag) (hc : X.calm = true := by rfl) (hK : X.K = K := by rfl) : CallR X (.builtin "all") (rAll K) := hK ▸ cr_all hc
theorem pg_tupN (K : PySem.W.Frag) {kk n : Nat} {t : TGs} (hc : X.calm = true) (h : PGs X es t) (hn : (assignEach es X.env).length = n := by rfl) (hst : (assignEach es X.env).findIdx? (·.1) = none := by rfl) (hK : X.K = K := by rfl) : PG X (.Tuple es kk pos) (gTup K n t) := hK ▸ pg_tup hc h hn hst
def rLenS (K : PySem.W.Frag) : List V → Hp → VK → Prop := fun xs H Q => ∃ p ys, xs = [.ref p] ∧ (SqL K H p ys ∨ SqT K H p ys) ∧ Q (.int ys.length) H
def rListOf (K : PySem.W.Frag) : List V → Hp → VK → Prop := fun xs H Q => ∃ p ys, xs = [.ref p] ∧ (SqL K H p ys ∨ SqT K H p ys) ∧ ∀ l, H l = none → Q (.ref l) (upd H l (.lst ys))
theorem call_len_seqN (K : PySem.W.Frag) (hK : X.K = K := by rfl) : CallR X (.builtin "len") (rLenS K) := hK ▸ call_len_seq
theorem call_list_ofN (K : PySem.W.Frag) (hK : X.K = K := by rfl) : CallR X (.type "list") (rListOf K) := hK ▸ call_list_of
theorem call_isiN (K : PySem.W.Frag) (hK : X.K = K := by rfl) : CallR X (.builtin "isinstance") (rIsi K) := hK ▸ call_isi
theorem call_isiTN (K : PySem.W.Frag) (hK : X.K = K := by rfl) : CallR X (.builtin "isinstance") (rIsiT K) := hK ▸ call_isiT
theorem ix_listN (K : PySem.W.Frag) (hK : X.K = K := by rfl) : IxR X (rIxL K) := hK ▸ ix_list
theorem op_in_seqN (K : PySem.W.Frag) (hK : X.K = K := by rfl) : OpR X (compareOp .In) (rIn K false) := hK ▸ op_in_seq
theorem op_notIn_seqN (K : PySem.W.Frag) (hK : X.K = K := by rfl) : OpR X (compareOp .NotIn) (rIn K true) := hK ▸ op_notIn_seq
theorem op_neNilN (K : PySem.W.Frag) (hu : X.A.units < cLine) (hK : X.K = K := by rfl) : OpR X (compareOp .NotEq) (rNeNil K) := hK ▸ op_neNil hu
theorem pe_fldN (K : PySem.W.Frag) {f : Str} (he : PE X e ta) (hb : attributeBase e f X.env (eval e X.env) = eval e X.env) (hK : X.K = K := by rfl) : PE X (.Attribute e f pos) (tFld K ta f) := hK ▸ pe_fld he hb
end
end Tc
/-! # list(zip(xs, ys)) of two lists: each pair a new tuple, all of them held by the new list -/
namespace Tc
open PySem PySem.Spec PyProof.Rows L2
open Sem (wp)
theorem adr_ne {a b t : Nat} (h1 : a < b) (h2 : b ≤ t) : t ≠ a := by omega
theorem adr_up {b n m : Nat} (h1 : b ≤ n) (h2 : m = n + 1) : b ≤ m := by omega
theorem zip_no_len : typeLookup (.type "zip") "__len__" = pure none := am_miss_of_fast (by decide +kernel)
theorem zip_no_hint : typeLookup (.type "zip") "__length_hint__" = pure none := am_miss_of_fast (by decide +kernel)
/-- the zip ahead of turn i -/
def ZipAt (B z TI TO i1 i2 l1 l2 : Addr) (i : Nat) (h : Heap) : Prop :=
  ((IsZip h z TI TO .none ∧ ∃ a b, IsPair h TO a b) ∨ ∃ T f oT, IsZipHeld h z TI TO T f ∧ h.get? T = some oT ∧ B ≤ T) ∧ IsPair h TI (.ref i1) (.ref i2) ∧ h.IsListIter i1 l1 i ∧ h.IsListIter i2 l2 i
section
variable {prog : Program} {w : World} {A : Around} {E : Value → Shared → Prop} {s : Shared} {z TI TO i1 i2 l1 l2 : Addr} {xs ys : Array Value}
theorem zip_loop {R : Result → Shared → Prop} (hh : A.handled = none) (D : ZipApart z TI TO i1 i2 l1 l2) (S B : Addr) (res : Value) (hS8 : S ≠ z ∧ S ≠ TI ∧ S ≠ TO ∧ S ≠ i1 ∧ S ≠ i2 ∧ S ≠ l1 ∧ S ≠ l2)
    (hB : S < B ∧ z < B ∧ TI < B ∧ TO < B ∧ i1 < B ∧ i2 < B ∧ l1 < B ∧ l2 < B) (hn : min xs.size ys.size ≤ sizeLine) :
    ∀ (k i : Nat) (s : Shared) (ts : List Addr) (c : Nat), min xs.size ys.size - i = k → i ≤ min xs.size ys.size → B ≤ s.heap.objs.size → ZipAt B z TI TO i1 i2 l1 l2 i s.heap → s.heap.IsList l1 xs → s.heap.IsList l2 ys →
    s.heap.get? S = some { cls := .type "list", dict := none, data := .seq (ts.map Value.ref).toArray c, slots := #[] } → ts.length = i → ts.Nodup →
    (∀ (j : Nat) (t : Addr), ts[j]? = some t → B ≤ t ∧ ∃ x y, xs[j]? = some x ∧ ys[j]? = some y ∧ IsPair s.heap t x y) →
    (∀ (h' : Heap) (ts' : List Addr) (c' : Nat), (∀ b o, b ≠ S → b ≠ z → b ≠ TO → b ≠ i1 → b ≠ i2 → s.heap.get? b = some o → h'.get? b = some o) →
      h'.get? S = some { cls := .type "list", dict := none, data := .seq (ts'.map Value.ref).toArray c', slots := #[] } → ts'.length = min xs.size ys.size → ts'.Nodup →
      (∀ (j : Nat) (t : Addr), ts'[j]? = some t → B ≤ t ∧ ∃ x y, xs[j]? = some x ∧ ys[j]? = some y ∧ IsPair h' t x y) → R (.ok (.ret res)) { s with heap := h' }) →
    codeAny (model prog w) A (.builtin "list.extend.loop" ⟨[.ref S, .ref z, res], []⟩) R s := by
  obtain ⟨s1, s2, s3, s4, s5, s6, s7⟩ := hS8
  obtain ⟨b0, b1, b2, b3, b4, b5, b6, b7⟩ := hB
  intro k
  induction k with
  | zero =>
    intro i s ts c hk hi hBs hz hl1 hl2 hS hlen hnd hts hR
    have hend : xs[i]? = none ∨ ys[i]? = none := by
      rcases Nat.le_total xs.size ys.size with h | h
      · exact .inl (Array.getElem?_eq_none (by omega))
      · exact .inr (Array.getElem?_eq_none (by omega))
    refine codeAny_builtin PySem.F.entry_extend_loop ?_
    rw [Around.under_plainId PySem.F.plain_extend_loop _]
    show wpAny _ A.in1 (pyNext (.ref z) >>= _) _ _ s
    obtain ⟨hz, hTI, h1, h2⟩ := hz
    have fin : ∀ h' : Heap, (∀ c o, c ≠ z → c ≠ TO → c ≠ i1 → c ≠ i2 → s.heap.get? c = some o → h'.get? c = some o) → R (.ok (.ret res)) { s with heap := h' } := fun h' hkp => by
      refine hR h' ts c (fun b o n0 n1 n2 n3 n4 e => hkp b o n1 n2 n3 n4 e) (hkp S _ s1 s3 s4 s5 hS) (by omega) hnd fun j t e => ?_
      obtain ⟨hb, x, y, ex, ey, hp⟩ := hts j t e
      exact ⟨hb, x, y, ex, ey, hkp t _ (adr_ne b1 hb) (adr_ne b3 hb) (adr_ne b4 hb) (adr_ne b5 hb) hp⟩
    rcases hz with ⟨hz, a, b, hTO⟩ | ⟨T, f, oT, hz, hT, hBT⟩
    · exact wpAny_bind (wpAny_pyNext_zip_end (show A.in1.handled = none from hh) D hz hTI hTO h1 h2 hl1 hl2 hend fun h' hkp => wpAny_pure (fin h' hkp))
    · exact wpAny_bind (wpAny_pyNext_zip_end_held (show A.in1.handled = none from hh) D hz hT hTI h1 h2 hl1 hl2 hend fun h' hkp => wpAny_pure (fin h' fun c o n1 _ n3 n4 e => hkp c o n1 n3 n4 e))
  | succ k ih =>
    intro i s ts c hk hi hBs hz hl1 hl2 hS hlen hnd hts hR
    have hx : ∃ x, xs[i]? = some x := ⟨_, Array.getElem?_eq_getElem (show i < xs.size by omega)⟩
    have hy : ∃ y, ys[i]? = some y := ⟨_, Array.getElem?_eq_getElem (show i < ys.size by omega)⟩
    obtain ⟨x, hx⟩ := hx
    obtain ⟨y, hy⟩ := hy
    refine codeAny_builtin PySem.F.entry_extend_loop ?_
    rw [Around.under_plainId PySem.F.plain_extend_loop _]
    show wpAny _ A.in1 (pyNext (.ref z) >>= _) _ _ s
    obtain ⟨hz, hTI, h1, h2⟩ := hz
    have step : ∀ (h' : Heap) (f : Bool) (T : Addr) (oT : Obj), IsZipHeld h' z TI TO T f → h'.get? T = some oT → B ≤ T → h'.IsListIter i1 l1 (i + 1) → h'.IsListIter i2 l2 (i + 1) → IsPair h' s.heap.objs.size x y → h'.objs.size = s.heap.objs.size + 1 →
        (∀ c o, c ≠ z → c ≠ TO → c ≠ i1 → c ≠ i2 → s.heap.get? c = some o → h'.get? c = some o) →
        wpAny (model prog w) A.in1 (Builtin.List.listUpdate (.ref S) (·.push (.ref s.heap.objs.size)) >>= fun _ => again (.builtin "list.extend.loop" ⟨[.ref S, .ref z, res], []⟩))
          (fun fin s' => match fin with | .done f => R (.ok f) s' | .again c' => c'.quiet = true ∧ codeAny (model prog w) A c' R s') (fun e s' => R (.error e) s') { s with heap := h' } := fun h' f T oT hz' hT' hBT' h1' h2' hp hsz hkp => by
      have hS' := hkp S _ s1 s3 s4 s5 hS
      show wpAny _ A.in1 (updateSeq S (·.push (.ref s.heap.objs.size)) >>= _) _ _ _
      refine wpAny_bind ?_
      have up : ∀ (b : Addr) (o : Obj) (g : Obj → Obj), b ≠ S → h'.get? b = some o → (h'.update S g).get? b = some o := fun b o g hb e => (Heap.get?_update_other _ _ (Ne.symm hb)).trans e
      have nS : s.heap.objs.size ≠ S := adr_ne b0 hBs
      obtain ⟨c2, eS⟩ : ∃ c2, (h'.update S (Obj.mapSeq (·.push (Value.ref s.heap.objs.size)))).get? S = some { cls := .type "list", dict := none, data := .seq ((ts ++ [s.heap.objs.size]).map Value.ref).toArray c2, slots := #[] } := by
        have e := Heap.get?_update_self (Obj.mapSeq (·.push (Value.ref s.heap.objs.size))) hS' rfl
        rw [List.map_append, List.map_singleton, ← List.push_toArray]
        exact ⟨_, e⟩
      refine wpAny_updateSeq hS' rfl (wpAny_pure ⟨plainId_quiet PySem.F.plain_extend_loop _, ih (i + 1) _ (ts ++ [s.heap.objs.size]) c2 (by omega) (by omega) ?_ ⟨.inr ⟨T, f, _, up z _ _ s1.symm hz', up _ _ _ (adr_ne b0 hBT') hT', hBT'⟩, up TI _ _ s2.symm (hkp TI _ D.TIz D.TITO D.TIi1 D.TIi2 hTI), ?_, ?_⟩ ?_ ?_ ?_ ?_ ?_ ?_ ?_⟩) ?_ ?_
      · show B ≤ (h'.update S _).objs.size
        rw [Heap.size_update]
        exact adr_up hBs hsz
      · exact h1'.at fun o e => up i1 o _ s4.symm e
      · exact h2'.at fun o e => up i2 o _ s5.symm e
      · exact hl1.at fun o e => up l1 o _ s6.symm (hkp l1 o D.l1z D.l1TO D.l1i1 D.l1i2 e)
      · exact hl2.at fun o e => up l2 o _ s7.symm (hkp l2 o D.l2z D.l2TO D.l2i1 D.l2i2 e)
      · exact eS
      · rw [List.length_append, hlen]
        rfl
      · refine List.nodup_append.mpr ⟨hnd, List.nodup_cons.mpr ⟨List.not_mem_nil, List.nodup_nil⟩, fun a ha b hb q => ?_⟩
        obtain ⟨j, hj⟩ := List.getElem?_of_mem ha
        obtain ⟨_, x', y', _, _, hp'⟩ := hts j a hj
        have hlt := Heap.lt_size hp'
        rw [q, List.mem_singleton.mp hb] at hlt
        exact Nat.lt_irrefl _ hlt
      · intro j t e
        by_cases hj : j < ts.length
        · rw [List.getElem?_append_left hj] at e
          obtain ⟨hb, x', y', ex, ey, hp'⟩ := hts j t e
          exact ⟨hb, x', y', ex, ey, up t _ _ (adr_ne b0 hb) (hkp t _ (adr_ne b1 hb) (adr_ne b3 hb) (adr_ne b4 hb) (adr_ne b5 hb) hp')⟩
        · rw [List.getElem?_append_right (by omega)] at e
          have hj0 : j - ts.length = 0 := by
            cases q : j - ts.length with
            | zero => rfl
            | succ q' =>
              rw [q] at e
              simp at e
          rw [hj0] at e
          have et : s.heap.objs.size = t := Option.some.inj e
          subst et
          have ej : j = i := by omega
          subst ej
          exact ⟨hBs, x, y, hx, hy, up _ _ _ nS hp⟩
      · intro h'' ts' c' hkp' hS'' hl' hn' ht'
        exact hR h'' ts' c' (fun b o n0 n1 n2 n3 n4 e => hkp' b o n0 n1 n2 n3 n4 (up b o _ n0 (hkp b o n1 n2 n3 n4 e))) hS'' hl' hn' ht'
      · simp only [List.size_toArray, List.length_map, hlen]
        omega
      · show ((ts.map Value.ref).toArray.push (Value.ref s.heap.objs.size)).size ≤ sizeLine + 1
        rw [Array.size_push]
        simp only [List.size_toArray, List.length_map, hlen]
        omega
    rcases hz with ⟨hz, a, b, hTO⟩ | ⟨T, f, oT, hz, hT, hBT⟩
    · exact wpAny_bind (wpAny_pyNext_zip_item D hz hTI hTO h1 h2 hl1 hl2 hx hy fun h' q0 _ q1 q2 q3 q4 q5 => step h' false _ _ q0 q3 hBs q1 q2 q3 q4 q5)
    · exact wpAny_bind (wpAny_pyNext_zip_item_held D hz hT hTI h1 h2 hl1 hl2 hx hy fun h' q0 q1 q2 q3 q4 q5 => step h' true T oT q0 (q5 T _ (adr_ne b1 hBT) (adr_ne b4 hBT) (adr_ne b5 hBT) hT) hBT q1 q2 q3 q4 fun c o n1 _ n3 n4 e => q5 c o n1 n3 n4 e)
/-- a list that holds nothing yet, extended by a zip just made -/
theorem zip_ext {R : Result → Shared → Prop} (hh : A.handled = none) (D : ZipApart z TI TO i1 i2 l1 l2) (S B : Addr) (res : Value) (c₀ : Nat) (hS8 : S ≠ z ∧ S ≠ TI ∧ S ≠ TO ∧ S ≠ i1 ∧ S ≠ i2 ∧ S ≠ l1 ∧ S ≠ l2)
    (hB : S < B ∧ z < B ∧ TI < B ∧ TO < B ∧ i1 < B ∧ i2 < B ∧ l1 < B ∧ l2 < B) (hn : min xs.size ys.size ≤ sizeLine) (hBs : B ≤ s.heap.objs.size)
    (hz : IsZip s.heap z TI TO .none) (hTI : IsPair s.heap TI (.ref i1) (.ref i2)) (hTO : IsPair s.heap TO .none .none) (h1 : s.heap.IsListIter i1 l1 0) (h2 : s.heap.IsListIter i2 l2 0) (hl1 : s.heap.IsList l1 xs) (hl2 : s.heap.IsList l2 ys)
    (hS : s.heap.get? S = some { cls := .type "list", data := .seq #[] c₀ })
    (hR : ∀ (h' : Heap) (ts' : List Addr) (c' : Nat), (∀ b o, b ≠ S → b ≠ z → b ≠ TO → b ≠ i1 → b ≠ i2 → s.heap.get? b = some o → h'.get? b = some o) →
      h'.get? S = some { cls := .type "list", dict := none, data := .seq (ts'.map Value.ref).toArray c', slots := #[] } → ts'.length = min xs.size ys.size → ts'.Nodup →
      (∀ (j : Nat) (t : Addr), ts'[j]? = some t → B ≤ t ∧ ∃ x y, xs[j]? = some x ∧ ys[j]? = some y ∧ IsPair h' t x y) → R (.ok (.ret res)) { s with heap := h' }) :
    wpAny (model prog w) A.in1 (Builtin.List.listExtendWith (.ref S) (.ref z) res)
      (fun fin s' => match fin with | .done f => R (.ok f) s' | .again c' => c'.quiet = true ∧ codeAny (model prog w) A c' R s') (fun e s' => R (.error e) s') s := by
  obtain ⟨s1, s2, s3, s4, s5, s6, s7⟩ := hS8
  have key : ∀ (g : Heap) (c₁ : Nat), (∀ b o, b ≠ S → s.heap.get? b = some o → g.get? b = some o) → g.get? S = some { cls := .type "list", data := .seq #[] c₁ } → B ≤ g.objs.size →
      codeAny (model prog w) A (.builtin "list.extend.loop" ⟨[.ref S, .ref z, res], []⟩) R { s with heap := g } := by
    intro g c₁ hk hg hBg
    refine zip_loop hh D S B res ⟨s1, s2, s3, s4, s5, s6, s7⟩ hB hn _ 0 { s with heap := g } [] c₁ rfl (Nat.zero_le _) hBg ⟨.inl ⟨hk z _ s1.symm hz, _, _, hk TO _ s3.symm hTO⟩, hk TI _ s2.symm hTI, h1.at fun o e => hk i1 o s4.symm e, h2.at fun o e => hk i2 o s5.symm e⟩
      (hl1.at fun o e => hk l1 o s6.symm e) (hl2.at fun o e => hk l2 o s7.symm e) hg rfl List.nodup_nil (fun j t e => by simp at e) fun h' ts c hk' hS' hl hnd hts => ?_
    exact hR h' ts c (fun b o n0 n1 n2 n3 n4 e => hk' b o n0 n1 n2 n3 n4 (hk b o n0 e)) hS' hl hnd hts
  have hT : s.TypeIs (.ref z) "zip" := ⟨_, hz, rfl⟩
  unfold Builtin.List.listExtendWith
  refine wpAny_bind (wpAny_typeOf (T := "zip") hT ?_)
  have hsr : Builtin.List.listSameRef (.ref S) (.ref z) = false := by simp [Builtin.List.listSameRef, s1]
  have hnl : (Value.type "zip" == Value.type "list") = false := by decide
  have hnt : (Value.type "zip" == Value.type "tuple") = false := by decide
  simp only [hsr, hnl, hnt, Bool.or_false, Bool.false_eq_true, if_false]
  refine wpAny_bind (wpAny_pyIter_zip hz ?_)
  refine wpAny_bind (wpAny_holding ?_)
  unfold Builtin.List.listLengthHint
  refine wpAny_bind (wpAny_specialOf hT zip_no_len ?_)
  show wpAny _ _ (specialOf (Value.ref z) (Str.ofString "__length_hint__") >>= _) _ _ _
  refine wpAny_bind (wpAny_specialOf hT zip_no_hint ?_)
  refine wpAny_pure ?_
  rw [if_pos (by decide +kernel)]
  refine wpAny_bind (wpAny_rule ?_)
  refine wpAny_bind ?_
  show wpAny _ _ (updateSeq S (·.push .none) >>= fun _ => updateSeq S (·.pop)) _ _ _
  refine wpAny_bind (wpAny_updateSeq hS rfl ?_)
  have hS₃ := Heap.get?_update_self (Obj.mapSeq (·.push Value.none)) hS rfl
  refine wpAny_updateSeq (hz := by seq_fits) hS₃ rfl ?_
  have hS₄ := Heap.get?_update_self (Obj.mapSeq (·.pop)) hS₃ rfl
  refine wpAny_pure ⟨plainId_quiet PySem.F.plain_extend_loop _, key _ _ (fun b o hb e => ?_) hS₄ ?_⟩
  · exact (Heap.get?_update_other _ _ (Ne.symm hb)).trans ((Heap.get?_update_other _ _ (Ne.symm hb)).trans e)
  · rw [Heap.size_update, Heap.size_update]
    exact hBs
theorem zip_init {R : Result → Shared → Prop} (hh : A.handled = none) (D : ZipApart z TI TO i1 i2 l1 l2) (S B : Addr) (hS8 : S ≠ z ∧ S ≠ TI ∧ S ≠ TO ∧ S ≠ i1 ∧ S ≠ i2 ∧ S ≠ l1 ∧ S ≠ l2)
    (hB : S < B ∧ z < B ∧ TI < B ∧ TO < B ∧ i1 < B ∧ i2 < B ∧ l1 < B ∧ l2 < B) (hn : min xs.size ys.size ≤ sizeLine) (hBs : B ≤ s.heap.objs.size)
    (hz : IsZip s.heap z TI TO .none) (hTI : IsPair s.heap TI (.ref i1) (.ref i2)) (hTO : IsPair s.heap TO .none .none) (h1 : s.heap.IsListIter i1 l1 0) (h2 : s.heap.IsListIter i2 l2 0) (hl1 : s.heap.IsList l1 xs) (hl2 : s.heap.IsList l2 ys)
    (hS : s.heap.get? S = some { cls := .type "list", data := .seq #[] })
    (hR : ∀ (h' : Heap) (ts' : List Addr) (c' : Nat), (∀ b o, b ≠ S → b ≠ z → b ≠ TO → b ≠ i1 → b ≠ i2 → s.heap.get? b = some o → h'.get? b = some o) →
      h'.get? S = some { cls := .type "list", dict := none, data := .seq (ts'.map Value.ref).toArray c', slots := #[] } → ts'.length = min xs.size ys.size → ts'.Nodup →
      (∀ (j : Nat) (t : Addr), ts'[j]? = some t → B ≤ t ∧ ∃ x y, xs[j]? = some x ∧ ys[j]? = some y ∧ IsPair h' t x y) → R (.ok (.ret .none)) { s with heap := h' }) :
    wpAny (model prog w) A.in1 (Builtin.«list.__init__» ⟨[.ref S, .ref z], []⟩)
      (fun fin s' => match fin with | .done f => R (.ok f) s' | .again c' => c'.quiet = true ∧ codeAny (model prog w) A c' R s') (fun e s' => R (.error e) s') s := by
  obtain ⟨s1, s2, s3, s4, s5, s6, s7⟩ := id hS8
  show wpAny _ _ (do let old ← Builtin.List.listItems (.ref S); Builtin.List.listUpdate (.ref S) (fun _ => #[]); letGo old.toList.reverse; Builtin.List.listExtendWith (.ref S) (.ref z) .none) _ _ s
  refine wpAny_bind ?_
  unfold Builtin.List.listItems
  refine wpAny_bind (wpAny_seqItems hS rfl (wpAny_pure ?_))
  show wpAny _ _ (updateSeq S (fun _ => #[]) >>= fun _ => letGo (#[] : Array Value).toList.reverse >>= fun _ => Builtin.List.listExtendWith (.ref S) (.ref z) .none) _ _ s
  refine wpAny_bind (wpAny_updateSeq hS rfl ?_)
  have hS₂ := Heap.get?_update_self (Obj.mapSeq (fun _ => (#[] : Array Value))) hS rfl
  have oth : ∀ b o, b ≠ S → s.heap.get? b = some o → (s.heap.update S (Obj.mapSeq (fun _ => (#[] : Array Value)))).get? b = some o :=
    fun b o hb e => (Heap.get?_update_other _ _ (Ne.symm hb)).trans e
  refine wpAny_bind (wpAny_letGo ?_)
  refine zip_ext (s := { s with heap := s.heap.update S (Obj.mapSeq (fun _ => (#[] : Array Value))) }) hh D S B .none _ hS8 hB hn (by rw [Heap.size_update]; exact hBs) (oth z _ s1.symm hz) (oth TI _ s2.symm hTI) (oth TO _ s3.symm hTO) (h1.at fun o e => oth i1 o s4.symm e) (h2.at fun o e => oth i2 o s5.symm e)
    (hl1.at fun o e => oth l1 o s6.symm e) (hl2.at fun o e => oth l2 o s7.symm e) hS₂ fun h' ts c hk hS' hl hnd hts => ?_
  exact hR h' ts c (fun b o n0 n1 n2 n3 n4 e => hk b o n0 n1 n2 n3 n4 (oth b o n0 e)) hS' hl hnd hts
/-- list(a zip just made) -/
theorem zip_list {Q : Value → Shared → Prop} (hh : A.handled = none) (D : ZipApart z TI TO i1 i2 l1 l2) (hn : min xs.size ys.size ≤ sizeLine)
    (hz : IsZip s.heap z TI TO .none) (hTI : IsPair s.heap TI (.ref i1) (.ref i2)) (hTO : IsPair s.heap TO .none .none) (h1 : s.heap.IsListIter i1 l1 0) (h2 : s.heap.IsListIter i2 l2 0) (hl1 : s.heap.IsList l1 xs) (hl2 : s.heap.IsList l2 ys)
    (hQ : ∀ (h' : Heap) (ts : List Addr) (c : Nat), (∀ b o, b ≠ z → b ≠ TO → b ≠ i1 → b ≠ i2 → s.heap.get? b = some o → h'.get? b = some o) →
      h'.get? s.heap.objs.size = some { cls := .type "list", dict := none, data := .seq (ts.map Value.ref).toArray c, slots := #[] } → ts.length = min xs.size ys.size → ts.Nodup →
      (∀ (j : Nat) (t : Addr), ts[j]? = some t → s.heap.objs.size + 1 ≤ t ∧ ∃ x y, xs[j]? = some x ∧ ys[j]? = some y ∧ IsPair h' t x y) → Q (.ref s.heap.objs.size) { s with heap := h' }) :
    wpAny (model prog w) A (call (.type "list") [.ref z]) Q E s := by
  refine callType_codes (Q₁ := fun obj s₁ => obj = .ref s.heap.objs.size ∧ s₁ = { s with heap := s.heap.push { cls := .type "list", data := .seq #[] } }) PySem.F.called_list (PySem.F.typeCall_list_1 _) PySem.F.entry_list_init
    (code_list_new _ ⟨rfl, rfl⟩) fun obj s₁ h₁ => ?_
  obtain ⟨rfl, rfl⟩ := h₁
  have hS : (s.heap.push { cls := .type "list", data := .seq #[] }).get? s.heap.objs.size = some { cls := .type "list", data := .seq #[] } := Heap.get?_push_size _ rfl
  have lz : z < s.heap.objs.size := Heap.lt_size hz
  have lTI : TI < s.heap.objs.size := Heap.lt_size hTI
  have lTO : TO < s.heap.objs.size := Heap.lt_size hTO
  have li1 : i1 < s.heap.objs.size := by obtain ⟨o, e, _⟩ := h1; exact Heap.lt_size e
  have li2 : i2 < s.heap.objs.size := by obtain ⟨o, e, _⟩ := h2; exact Heap.lt_size e
  have ll1 : l1 < s.heap.objs.size := by obtain ⟨o, e, _⟩ := hl1; exact Heap.lt_size e
  have ll2 : l2 < s.heap.objs.size := by obtain ⟨o, e, _⟩ := hl2; exact Heap.lt_size e
  have pk : ∀ b o, s.heap.get? b = some o → (s.heap.push { cls := .type "list", data := .seq #[] }).get? b = some o := fun b o e => Heap.get?_push_of_some _ e
  refine ⟨⟨_, hS, rfl⟩, PySem.F.args_list_init_2 _ _, zip_init (A := A.in1) (s := { s with heap := s.heap.push { cls := .type "list", data := .seq #[] } }) hh D s.heap.objs.size (s.heap.objs.size + 1)
    ⟨Nat.ne_of_gt lz, Nat.ne_of_gt lTI, Nat.ne_of_gt lTO, Nat.ne_of_gt li1, Nat.ne_of_gt li2, Nat.ne_of_gt ll1, Nat.ne_of_gt ll2⟩
    ⟨Nat.lt_succ_self _, Nat.lt_succ_of_lt lz, Nat.lt_succ_of_lt lTI, Nat.lt_succ_of_lt lTO, Nat.lt_succ_of_lt li1, Nat.lt_succ_of_lt li2, Nat.lt_succ_of_lt ll1, Nat.lt_succ_of_lt ll2⟩ hn (Nat.le_of_eq (Heap.size_push _ _).symm)
    (pk _ _ hz) (pk _ _ hTI) (pk _ _ hTO) (h1.at fun o e => pk _ _ e) (h2.at fun o e => pk _ _ e) (hl1.at fun o e => pk _ _ e) (hl2.at fun o e => pk _ _ e) hS fun h' ts c hk hS' hl hnd hts => ?_⟩
  exact ⟨rfl, hQ h' ts c (fun b o n1 n2 n3 n4 e => hk b o (Nat.ne_of_lt (Heap.lt_size e)) n1 n2 n3 n4 (pk b o e)) hS' hl hnd hts⟩
end
/-! ## The rule -/
section
variable {X : Cx} {pins : List (Addr × Obj)} {σ : L2.St} {H H' : Hp} {s : Shared} {h' : Heap}
/-- several objects are laid at once and tracked -/
theorem laid_all {t' : Nat} (I : Inv X pins σ H s) (k : ∀ b u, s.heap.get? b = some u → h'.get? b = some u) (hs : ∀ b o, H b = some o → H' b = some o) (hf : ∀ b, b < s.heap.objs.size → H b = none → H' b = none)
    (new : ∀ b o, H b = none → H' b = some o → ObjOk X.prog X.w H' h' b o) : Inv X pins σ H' { s with heap := h', toks := t' } := by
  refine I.un ⟨fun b o q _ _ _ => k b o q, fun b o q _ _ _ => ⟨o.slots, k b o q⟩, fun b o q n _ => hf b (Heap.lt_size q) n, fun b o q _ => ⟨o, k b o q⟩, fun b xs q => hs b _ q, fun b o u q => hs b _ q, fun b ps q => ⟨#[], by rw [hs b _ q]; simp⟩⟩ fun b o q => ?_
  cases e : H b with
  | none => exact new b o e q
  | some u =>
    have e2 := hs b u e
    rw [q] at e2
    cases e2
    exact (I.hok b _ e).stay (fun c v _ z => k c v z) (fun c z => hs c _ z) fun c xs z => hs c _ z
end
/-- tuples at their addresses -/
def updT (H : Hp) : List Addr → List (List V) → Hp
  | t :: ts, v :: vs => upd (updT H ts vs) t (.tup v)
  | _, _ => H
theorem updT_out {H : Hp} : ∀ {ts : List Addr} {vs : List (List V)} {b : Addr}, b ∉ ts → updT H ts vs b = H b
  | [], _, _, _ => rfl
  | _ :: _, [], _, _ => rfl
  | t :: ts, v :: vs, b, h => by
    show upd (updT H ts vs) t (.tup v) b = H b
    rw [upd_ne fun e => h (by rw [e]; exact List.mem_cons_self), updT_out fun e => h (List.mem_cons_of_mem _ e)]
theorem updT_at {H : Hp} : ∀ {ts : List Addr} {vs : List (List V)} {j : Nat} {t : Addr} {v : List V}, ts.Nodup → ts[j]? = some t → vs[j]? = some v → updT H ts vs t = some (.tup v)
  | [], _, _, _, _, _, h, _ => by simp at h
  | _ :: _, [], _, _, _, _, _, h => by simp at h
  | t :: ts, v :: vs, 0, t', v', _, h, h2 => by
    have e1 : t = t' := Option.some.inj h
    have e2 : v = v' := Option.some.inj h2
    subst e1
    subst e2
    exact upd_same
  | t :: ts, v :: vs, j + 1, t', v', hn, h, h2 => by
    obtain ⟨n1, n2⟩ := List.nodup_cons.mp hn
    show upd (updT H ts vs) t (.tup v) t' = _
    have hm : t' ∈ ts := List.mem_of_getElem? (show ts[j]? = some t' from h)
    rw [upd_ne fun e => n1 (by rw [← e]; exact hm)]
    exact updT_at n2 h h2
theorem updT_some {H : Hp} : ∀ {ts : List Addr} {vs : List (List V)} {b : Addr} {o : HO}, updT H ts vs b = some o → H b = none → ∃ (j : Nat) (v : List V), ts[j]? = some b ∧ vs[j]? = some v ∧ o = .tup v
  | [], _, _, _, h, n => by rw [show updT _ _ _ _ = _ from rfl] at h; exact absurd (n.symm.trans h) (fun z => by cases z)
  | _ :: _, [], _, _, h, n => by exact absurd (n.symm.trans h) (fun z => by cases z)
  | t :: ts, v :: vs, b, o, h, n => by
    by_cases e : b = t
    · subst e
      have h2 : upd (updT H ts vs) b (.tup v) b = some o := h
      rw [upd_same] at h2
      exact ⟨0, v, rfl, rfl, (Option.some.inj h2).symm⟩
    · have h2 : upd (updT H ts vs) t (.tup v) b = some o := h
      rw [upd_ne e] at h2
      obtain ⟨j, v', a1, a2, a3⟩ := updT_some h2 n
      exact ⟨j + 1, v', a1, a2, a3⟩
def tListZip (K : PySem.W.Frag) (ta : TA) : TE := fun σ H Q => ta σ H fun vs H1 => ∃ a b xs ys, vs = [.ref a, .ref b] ∧ SqL K H1 a xs ∧ SqL K H1 b ys ∧
  ∀ (l : Addr) (ts : List Addr) (H' : Hp), Same H1 H' → H1 l = none → (∀ t ∈ ts, H1 t = none) → H' l = some (.lst (ts.map V.ref)) → ts.length = min xs.length ys.length →
    (∀ (j : Nat) t x y, ts[j]? = some t → xs[j]? = some x → ys[j]? = some y → H' t = some (.tup [x, y])) → Q (.ref l) H'
theorem pe_listZip {X : Cx} {e e2 : Expr} {ta : TA} {p p2 pos pos2 : Pos} (hc : X.calm = true) (ml : X.mg "list" = none) (mz : X.mg "zip" = none) (ha : PA X [e, e2] ta) (hgl : Gl X "list" := by rfl) (hg : Gl X "zip" := by rfl)
    (hs : starEach [e, e2] X.env = (false, eval e X.env) :: starEach [e2] X.env := by rfl) (hpl : (backTo pos2 (starEach [e2] X.env)).any (·.1) = false := by rfl)
    (na : starEach [.Call (.Name "zip" p2) [e, e2] [] pos2] X.env = (false, eval (.Call (.Name "zip" p2) [e, e2] [] pos2) X.env) :: starEach [] X.env := by rfl) :
    PE X (.Call (.Name "list" p) [.Call (.Name "zip" p2) [e, e2] [] pos2] [] pos) (tListZip X.K ta) := by
  refine ⟨fun pins s σ H Q I h => ?_⟩
  refine Call_ (ld_blt I hgl ml boot_list (PyProof.Rows.callWith_type1 (args_cons ?_ na) na))
  refine Call_ (ld_blt I hg mz PyProof.Rows.boot_zip (PyProof.Rows.callWith_type1 (thn (ha.run pos2 pins s σ H _ I h) fun us s1 ⟨vs, H1, I1, r1, q1⟩ => ?_) hs hpl))
  obtain ⟨a, b, xs, ys, ex, hqx, hqy, q⟩ := q1
  subst ex
  cases r1 with
  | cons r rr =>
  cases rr with
  | cons r' rr =>
  cases rr
  cases r
  cases r'
  obtain ⟨its, rv, p1, z1⟩ := I1.list hqx
  obtain ⟨its2, rv2, p2, z2⟩ := I1.list hqy
  have la : a < s1.heap.objs.size := p1.lt
  have lb : b < s1.heap.objs.size := p2.lt
  refine call_zip_2 p1.isList p2.isList fun h' hz hTI hTO h1 h2 hsz hk => args_nil ?_
  have n1 := rv.length
  have n2 := rv2.length
  refine zip_list (s := { s1 with heap := h' }) (I.ok.hd hc) (PySem.W.ktu_apart s1.heap.objs.size a b la lb) (by simp; omega) hz hTI hTO h1 h2 (p1.isList.at fun o e => hk a o e) (p2.isList.at fun o e => hk b o e) fun h'' ts c hk2 hS hl hnd hts => ?_
  have kk : ∀ b u, s1.heap.get? b = some u → h''.get? b = some u := fun c u e => by
    have hlt := Heap.lt_size e
    refine hk2 c u ?_ ?_ ?_ ?_ (hk c u e)
    · exact Nat.ne_of_lt (Nat.lt_of_lt_of_le hlt (Nat.le_add_right _ _))
    · exact Nat.ne_of_lt (Nat.lt_of_lt_of_le hlt (Nat.le_add_right _ _))
    · exact Nat.ne_of_lt hlt
    · exact Nat.ne_of_lt (Nat.lt_of_lt_of_le hlt (Nat.le_add_right _ _))
  have hsz' : h'.objs.size = s1.heap.objs.size + 5 := hsz
  have fr : ∀ c, h'.objs.size ≤ c → H1 c = none := fun c hc => I1.hok.fresh (Nat.le_trans (by rw [hsz']; exact Nat.le_add_right _ _) hc)
  have frt : ∀ t ∈ ts, H1 t = none := fun t ht => by
    obtain ⟨j, hj⟩ := List.getElem?_of_mem ht
    exact fr t (Nat.le_trans (Nat.le_succ _) (hts j t hj).1)
  have nl : ∀ t ∈ ts, t ≠ h'.objs.size := fun t ht => by
    obtain ⟨j, hj⟩ := List.getElem?_of_mem ht
    exact Nat.ne_of_gt (hts j t hj).1
  let vs : List (List V) := (List.zip xs ys).map fun q => [q.1, q.2]
  let H' : Hp := upd (updT H1 ts vs) h'.objs.size (.lst (ts.map V.ref))
  have vsAt : ∀ (j : Nat) x y, xs[j]? = some x → ys[j]? = some y → vs[j]? = some [x, y] := fun j x y ex ey => by
    show ((List.zip xs ys).map _)[j]? = _
    rw [List.getElem?_map, (List.getElem?_zip_eq_some (z := (x, y))).mpr ⟨ex, ey⟩]
    rfl
  have sm : Same H1 H' := fun c o e => by
    show upd _ _ _ c = _
    rw [upd_ne (ne_of_none e (fr _ (Nat.le_refl _))), updT_out fun hm => by rw [frt c hm] at e; cases e]
    exact e
  have tAt : ∀ (j : Nat) t x y, ts[j]? = some t → xs[j]? = some x → ys[j]? = some y → H' t = some (.tup [x, y]) := fun j t x y et ex ey => by
    show upd _ _ _ t = _
    rw [upd_ne (nl t (List.mem_of_getElem? et))]
    exact updT_at hnd et (vsAt j x y ex ey)
  refine ⟨.ref h'.objs.size, H', laid_all (s := s1) (h' := h'') (t' := s1.toks) I1 kk sm (fun c hc n => ?_) (fun c o n e => ?_), rfl, q h'.objs.size ts H' sm (fr _ (Nat.le_refl _)) frt upd_same (by rw [hl]; simp [n1, n2]) tAt⟩
  · show upd _ _ _ c = _
    have hc' : c < h'.objs.size := by rw [hsz']; exact Nat.lt_of_lt_of_le hc (Nat.le_add_right _ _)
    rw [upd_ne (Nat.ne_of_lt hc'), updT_out fun hm => ?_]
    · exact n
    · obtain ⟨j, hj⟩ := List.getElem?_of_mem hm
      exact absurd (Nat.lt_of_lt_of_le hc' (Nat.le_trans (Nat.le_succ _) (hts j c hj).1)) (Nat.lt_irrefl _)
  · by_cases ec : c = h'.objs.size
    · subst ec
      have e2 : some (HO.lst (ts.map V.ref)) = some o := by rw [← e]; exact upd_same.symm
      cases e2
      refine ⟨?_, ts.map Value.ref, c, ?_, hS⟩
      · rw [List.length_map, hl]
        simp
        omega
      · clear hS hts hl hnd e n tAt sm H' nl frt
        induction ts with
        | nil => exact .nil
        | cons t r ih => exact .cons rfl ih
    · have e2 : updT H1 ts vs c = some o := by rw [← e]; exact (upd_ne ec).symm
      obtain ⟨j, v, et, ev, rfl⟩ := updT_some e2 n
      obtain ⟨_, x, y, hx, hy, hp⟩ := hts j c et
      have hx' : its[j]? = some x := by simpa using hx
      have hy' : its2[j]? = some y := by simpa using hy
      have jx : j < xs.length := by rw [n1]; exact (List.getElem?_eq_some_iff.mp hx').1
      have jy : j < ys.length := by rw [n2]; exact (List.getElem?_eq_some_iff.mp hy').1
      obtain ⟨u1, e1, r1⟩ := rv.get (List.getElem?_eq_getElem jx)
      obtain ⟨u2, e3, r2⟩ := rv2.get (List.getElem?_eq_getElem jy)
      rw [hx'] at e1
      rw [hy'] at e3
      cases e1
      cases e3
      have ev2 := vsAt j _ _ (List.getElem?_eq_getElem jx) (List.getElem?_eq_getElem jy)
      rw [ev] at ev2
      cases ev2
      exact ⟨by show 2 ≤ sizeLine; decide, [x, y], .cons r1 (.cons r2 .nil), ⟨_, hp, rfl, _, rfl⟩⟩
end Tc
/-! # What the walk asks of the text as the top has left it -/
namespace Tc
open PySem PySem.Spec PyProof.Rows L2
section
variable (K : PySem.W.Frag) (mg : Str → Option Value)
/-- a global def | a method | a class's __init__ | a property | __call__, of the text -/
structure DG (x : Str) (st : Stmt) : Prop where
  ex : ∃ f fd, FunX K x x st [] f fd ∧ mg x = some (.ref f)
structure DM (C : Addr) (m qual : Str) (st : Stmt) (dvs : List V) : Prop where
  ex : ∃ f fd, FunX K m qual st dvs f fd ∧ Meth K C m f
structure DK (x : Str) (C : Addr) (qual : Str) (st : Stmt) : Prop where
  ex : ∃ f fd, FunX K "__init__" qual st [] f fd ∧ Mk K C f ∧ mg x = some (.ref C)
structure DP (C : Addr) (m qual : Str) (st : Stmt) : Prop where
  ex : ∃ p g fd, PropOf K C m p g ∧ FunX K m qual st [] g fd
structure DC (C : Addr) (qual : Str) (st : Stmt) : Prop where
  ex : ∃ g fd, StX.CallO K C g ∧ FunX K "__call__" qual st [] g fd
end
/-- the classes, and the tuple KINDS -/
structure Cs where
  tx : Addr
  ow : Addr
  de : Addr
  ma : Addr
  pr : Addr
  se : Addr
  co : Addr
  kn : Addr
structure Txt (K : PySem.W.Frag) (mg : Str → Option Value) (c : Cs) : Prop where
  z_len : mg "len" = none
  z_isinstance : mg "isinstance" = none
  z_int : mg "int" = none
  z_bool : mg "bool" = none
  z_str : mg "str" = none
  z_list : mg "list" = none
  z_tuple : mg "tuple" = none
  z_sum : mg "sum" = none
  z_range : mg "range" = none
  z_zip : mg "zip" = none
  z_enumerate : mg "enumerate" = none
  z_any : mg "any" = none
  z_all : mg "all" = none
  z_max : mg "max" = none
  z_min : mg "min" = none
  i_LAST_CHAR : ∃ u, mg "LAST_CHAR" = some u ∧ RelV (.int 1114111) u
  i_LOW_GAP : ∃ u, mg "LOW_GAP" = some u ∧ RelV (.int 55296) u
  i_HIGH_GAP : ∃ u, mg "HIGH_GAP" = some u ∧ RelV (.int 57343) u
  i_LONGEST_NAME : ∃ u, mg "LONGEST_NAME" = some u ∧ RelV (.int 8) u
  i_TWO : ∃ u, mg "TWO" = some u ∧ RelV (.int 128) u
  i_THREE : ∃ u, mg "THREE" = some u ∧ RelV (.int 2048) u
  i_FOUR : ∃ u, mg "FOUR" = some u ∧ RelV (.int 65536) u
  i_MOST : ∃ u, mg "MOST" = some u ∧ RelV (.int 600) u
  i_MAX_ROWS_edits : ∃ u, mg "MAX_ROWS_edits" = some u ∧ RelV (.int 1300) u
  i_MAX_EDITS : ∃ u, mg "MAX_EDITS" = some u ∧ RelV (.int 60) u
  i_MOST_COUNT : ∃ u, mg "MOST_COUNT" = some u ∧ RelV (.int 2400) u
  i_GREATEST : ∃ u, mg "GREATEST" = some u ∧ RelV (.int 1000000000000000000000000000000) u
  i_MAX_VERSION : ∃ u, mg "MAX_VERSION" = some u ∧ RelV (.int 1000) u
  s_LETTERS : ∃ u, mg "LETTERS" = some u ∧ RelV (.str "abcdefghijklmnopqrstuvwxyz") u
  s_BYTES_texts : ∃ u, mg "BYTES_texts" = some u ∧ RelV (.str "bytes") u
  s_UNITS_texts : ∃ u, mg "UNITS_texts" = some u ∧ RelV (.str "units") u
  s_CHARS_texts : ∃ u, mg "CHARS_texts" = some u ∧ RelV (.str "chars") u
  s_KEEP : ∃ u, mg "KEEP" = some u ∧ RelV (.str "keep") u
  s_DROP : ∃ u, mg "DROP" = some u ∧ RelV (.str "drop") u
  s_PUT : ∃ u, mg "PUT" = some u ∧ RelV (.str "put") u
  s_ACK_programs : ∃ u, mg "ACK_programs" = some u ∧ RelV (.str "ack") u
  s_CHANGE_programs : ∃ u, mg "CHANGE_programs" = some u ∧ RelV (.str "change") u
  s_ACK_server : ∃ u, mg "ACK_server" = some u ∧ RelV (.str "ack") u
  s_CHANGE_server : ∃ u, mg "CHANGE_server" = some u ∧ RelV (.str "change") u
  g_kn : ∃ u, mg "KINDS" = some u ∧ RelV (.ref c.kn) u
  t_kn : ∀ H : Hp, SqT K H c.kn [.str "bytes", .str "units", .str "chars"]
  g_tx : ∃ u, mg "Text" = some u ∧ RelV (.ref c.tx) u
  cl_tx : Cls K c.tx
  n_tx_own_chars : NoAttr K c.tx "own_chars"
  n_tx_own_counts : NoAttr K c.tx "own_counts"
  g_ow : ∃ u, mg "OwnRows" = some u ∧ RelV (.ref c.ow) u
  cl_ow : Cls K c.ow
  n_ow_held : NoAttr K c.ow "held"
  g_de : ∃ u, mg "Delta" = some u ∧ RelV (.ref c.de) u
  cl_de : Cls K c.de
  n_de_own_rows : NoAttr K c.de "own_rows"
  n_de_puts : NoAttr K c.de "puts"
  n_de_drops : NoAttr K c.de "drops"
  n_de_own_before : NoAttr K c.de "own_before"
  n_de_own_after : NoAttr K c.de "own_after"
  g_ma : ∃ u, mg "Marks" = some u ∧ RelV (.ref c.ma) u
  cl_ma : Cls K c.ma
  n_ma_numbers : NoAttr K c.ma "numbers"
  n_ma_places : NoAttr K c.ma "places"
  g_pr : ∃ u, mg "Program" = some u ∧ RelV (.ref c.pr) u
  cl_pr : Cls K c.pr
  n_pr_own_name : NoAttr K c.pr "own_name"
  n_pr_own_kind : NoAttr K c.pr "own_kind"
  n_pr_own_version : NoAttr K c.pr "own_version"
  n_pr_base_text : NoAttr K c.pr "base_text"
  n_pr_own_text : NoAttr K c.pr "own_text"
  n_pr_sent : NoAttr K c.pr "sent"
  n_pr_waiting : NoAttr K c.pr "waiting"
  n_pr_backs : NoAttr K c.pr "backs"
  g_se : ∃ u, mg "Server" = some u ∧ RelV (.ref c.se) u
  cl_se : Cls K c.se
  n_se_texts : NoAttr K c.se "texts"
  n_se_deltas : NoAttr K c.se "deltas"
  n_se_authors : NoAttr K c.se "authors"
  n_se_kinds : NoAttr K c.se "kinds"
  n_se_spots : NoAttr K c.se "spots"
  g_co : ∃ u, mg "Company" = some u ∧ RelV (.ref c.co) u
  cl_co : Cls K c.co
  n_co_own_server : NoAttr K c.co "own_server"
  n_co_programs : NoAttr K c.co "programs"
  n_co_ups : NoAttr K c.co "ups"
  n_co_downs : NoAttr K c.co "downs"
  k_tx : InsOk K c.tx
  k_ow : InsOk K c.ow
  k_de : InsOk K c.de
  sf_de : PySem.W.selfFirst K c.de = true
  d_is_integer : DG K mg "is_integer" s_is_integer
  d_is_char : DG K mg "is_char" s_is_char
  d_is_list : DG K mg "is_list" s_is_list
  d_is_kind : DG K mg "is_kind" s_is_kind
  d_is_name : DG K mg "is_name" s_is_name
  d_need_char : DG K mg "need_char" s_need_char
  d_need_kind : DG K mg "need_kind" s_need_kind
  d_need_chars : DG K mg "need_chars" s_need_chars
  d_wide : DG K mg "wide" s_wide
  d_counts_in : DG K mg "counts_in" s_counts_in
  d_Text_init : DK K mg "Text" c.tx "Text.__init__" s_Text_init
  d_Text_chars : DM K c.tx "chars" "Text.chars" s_Text_chars []
  d_Text_len : DM K c.tx "__len__" "Text.__len__" s_Text_len []
  d_need_text : DG K mg "need_text" s_need_text
  d_gaps_of : DG K mg "gaps_of" s_gaps_of
  d_normal_rows : DG K mg "normal_rows" s_normal_rows
  d_OwnRows_init : DK K mg "OwnRows" c.ow "OwnRows.__init__" s_OwnRows_init
  d_Delta_init : DK K mg "Delta" c.de "Delta.__init__" s_Delta_init
  d_Delta_rows : DM K c.de "rows" "Delta.rows" s_Delta_rows []
  d_Delta_length_before : DP K c.de "length_before" "Delta.length_before" s_Delta_length_before
  d_Delta_need_fit : DM K c.de "need_fit" "Delta.need_fit" s_Delta_need_fit []
  d_Delta_call : DC K c.de "Delta.__call__" s_Delta_call
  d_Delta_inverted : DM K c.de "inverted" "Delta.inverted" s_Delta_inverted []
  d_Delta_over : DM K c.de "over" "Delta.over" s_Delta_over []
  d_Delta_add : DM K c.de "__add__" "Delta.__add__" s_Delta_add []
  d_delta_of : DG K mg "delta_of" s_delta_of
  d_need_delta : DG K mg "need_delta" s_need_delta
  d_composed : DG K mg "composed" s_composed
  d_Marks_init : DK K mg "Marks" c.ma "Marks.__init__" s_Marks_init
  d_Marks_place : DM K c.ma "place" "Marks.place" s_Marks_place []
  d_counted : DG K mg "counted" s_counted
  d_is_counted_row : DG K mg "is_counted_row" s_is_counted_row
  d_delta_from : DG K mg "delta_from" s_delta_from
  d_is_edit : DG K mg "is_edit" s_is_edit
  d_need_edits : DG K mg "need_edits" s_need_edits
  d_stands : DG K mg "stands" s_stands
  d_rows_of : DG K mg "rows_of" s_rows_of
  d_together : DG K mg "together" s_together
  d_Program_init : DK K mg "Program" c.pr "Program.__init__" s_Program_init
  d_Program_version : DP K c.pr "version" "Program.version" s_Program_version
  d_Program_base : DM K c.pr "base" "Program.base" s_Program_base []
  d_Program_text : DM K c.pr "text" "Program.text" s_Program_text []
  d_Program_wait : DM K c.pr "wait" "Program.wait" s_Program_wait []
  d_Program_own_change : DM K c.pr "own_change" "Program.own_change" s_Program_own_change []
  d_Program_edit : DM K c.pr "edit" "Program.edit" s_Program_edit []
  d_Program_send : DM K c.pr "send" "Program.send" s_Program_send []
  d_Program_need_message : DM K c.pr "need_message" "Program.need_message" s_Program_need_message []
  d_Program_receive : DM K c.pr "receive" "Program.receive" s_Program_receive []
  d_Program_take : DM K c.pr "take" "Program.take" s_Program_take []
  d_Server_init : DK K mg "Server" c.se "Server.__init__" s_Server_init
  d_Server_need_version : DM K c.se "need_version" "Server.need_version" s_Server_need_version []
  d_Server_text : DM K c.se "text" "Server.text" s_Server_text [.non]
  d_Server_join : DM K c.se "join" "Server.join" s_Server_join []
  d_Server_kind_of : DM K c.se "kind_of" "Server.kind_of" s_Server_kind_of []
  d_Server_message : DM K c.se "message" "Server.message" s_Server_message []
  d_Server_submit : DM K c.se "submit" "Server.submit" s_Server_submit []
  d_Company_init : DK K mg "Company" c.co "Company.__init__" s_Company_init
  d_Company_version : DP K c.co "version" "Company.version" s_Company_version
  d_Company_server_text : DM K c.co "server_text" "Company.server_text" s_Company_server_text [.non]
  d_Company_join : DM K c.co "join" "Company.join" s_Company_join []
  d_Company_program : DM K c.co "program" "Company.program" s_Company_program []
  d_Company_text : DM K c.co "text" "Company.text" s_Company_text []
  d_Company_base : DM K c.co "base" "Company.base" s_Company_base []
  d_Company_version_of : DM K c.co "version_of" "Company.version_of" s_Company_version_of []
  d_Company_queues : DM K c.co "queues" "Company.queues" s_Company_queues []
  d_Company_edit : DM K c.co "edit" "Company.edit" s_Company_edit []
  d_Company_send : DM K c.co "send" "Company.send" s_Company_send []
  d_Company_deliver_up : DM K c.co "deliver_up" "Company.deliver_up" s_Company_deliver_up []
  d_Company_deliver_down : DM K c.co "deliver_down" "Company.deliver_down" s_Company_deliver_down []
  d_Company_is_quiet : DP K c.co "is_quiet" "Company.is_quiet" s_Company_is_quiet
  d_Company_settle : DM K c.co "settle" "Company.settle" s_Company_settle []
  d_l_cell : DG K mg "_law_cell" s_l_cell
  d_l_bag : DG K mg "_law_bag" s_l_bag
  d_l_take : DG K mg "_law_take" s_l_take
  d_l_width : DG K mg "_law_width" s_l_width
  d_l_numbers : DG K mg "_law_numbers" s_l_numbers
  d_l_send_all : DG K mg "_law_send_all" s_l_send_all
  d_l_counted_edits : DG K mg "_law_counted_edits" s_l_counted_edits
  d_l_fresh : DG K mg "_law_fresh" s_l_fresh
  d_l_edited : DG K mg "_law_edited" s_l_edited
  d_l_in_order : DG K mg "_law_in_order" s_l_in_order
  d_l_end_right : DG K mg "_law_end_right" s_l_end_right
  d_l_right : DG K mg "_law_right" s_l_right
  d_law : DG K mg "law" s_law
section
variable {K : PySem.W.Frag} {mg : Str → Option Value} {h : Heap}
theorem int_fact (X : K.In h) (G : h.Ns mainGlobals mg) {x : Str} {i : Int} (c : (He.Fa.int x i).ok K = true) : ∃ u, mg x = some u ∧ RelV (.int i) u := by
  obtain ⟨t, e⟩ := He.int_ok X G c
  exact ⟨_, e, t, rfl⟩
theorem str_fact (X : K.In h) (G : h.Ns mainGlobals mg) {x z : Str} (c : (He.Fa.str x z).ok K = true) : ∃ u, mg x = some u ∧ RelV (.str z) u := by
  obtain ⟨t, e⟩ := He.str_ok X G c
  exact ⟨_, e, t, rfl⟩
theorem callB_ok {x m : Str} (h : callB K x m = true) : PySem.W.findIn K (.ref (He.ga K x)) m = some (some (.ref (He.ma K (He.ga K x) m))) ∧ PySem.W.isFn K (.ref (He.ma K (He.ga K x) m)) = true ∧ PySem.W.fnIn K (He.ma K (He.ga K x) m) = true := by
  obtain ⟨h1, h2⟩ := He.ba h
  obtain ⟨h3, h4⟩ := He.ba h2
  exact ⟨of_decide_eq_true h1, h3, h4⟩
def csOf (K : PySem.W.Frag) : Cs := ⟨He.ga K "Text", He.ga K "OwnRows", He.ga K "Delta", He.ga K "Marks", He.ga K "Program", He.ga K "Server", He.ga K "Company", He.ga K "KINDS"⟩
theorem txt_of (X : K.In h) (G : h.Ns mainGlobals mg) (c : Told parts K) : Txt K mg (csOf K) := by
  have c0 : pt0.obs K = pt0.want := Told.part c 0
  have c1 : pt1.obs K = pt1.want := Told.part c 1
  have c2 : pt2.obs K = pt2.want := Told.part c 2
  have c3 : pt3.obs K = pt3.want := Told.part c 3
  exact ⟨He.free_ok X G (Part.fact c1 1),
    He.free_ok X G (Part.fact c1 2),
    He.free_ok X G (Part.fact c1 3),
    He.free_ok X G (Part.fact c1 4),
    He.free_ok X G (Part.fact c1 5),
    He.free_ok X G (Part.fact c1 6),
    He.free_ok X G (Part.fact c1 7),
    He.free_ok X G (Part.fact c1 8),
    He.free_ok X G (Part.fact c1 9),
    He.free_ok X G (Part.fact c1 10),
    He.free_ok X G (Part.fact c1 11),
    He.free_ok X G (Part.fact c1 12),
    He.free_ok X G (Part.fact c1 13),
    He.free_ok X G (Part.fact c1 14),
    He.free_ok X G (Part.fact c1 15),
    int_fact X G (Part.fact c1 16),
    int_fact X G (Part.fact c1 17),
    int_fact X G (Part.fact c1 18),
    int_fact X G (Part.fact c1 19),
    int_fact X G (Part.fact c1 20),
    int_fact X G (Part.fact c1 21),
    int_fact X G (Part.fact c1 22),
    int_fact X G (Part.fact c1 23),
    int_fact X G (Part.fact c1 24),
    int_fact X G (Part.fact c1 25),
    int_fact X G (Part.fact c1 26),
    int_fact X G (Part.fact c1 27),
    int_fact X G (Part.fact c1 28),
    str_fact X G (Part.fact c1 29),
    str_fact X G (Part.fact c1 30),
    str_fact X G (Part.fact c1 31),
    str_fact X G (Part.fact c1 32),
    str_fact X G (Part.fact c1 33),
    str_fact X G (Part.fact c1 34),
    str_fact X G (Part.fact c1 35),
    str_fact X G (Part.fact c1 36),
    str_fact X G (Part.fact c1 37),
    str_fact X G (Part.fact c1 38),
    str_fact X G (Part.fact c1 39),
    ⟨_, He.glo_ok X G (Part.fact c1 40), rfl⟩,
    fun H => He.tupB_ok (vs := [.str "bytes", .str "units", .str "chars"]) (Part.fact c1 41) H,
    ⟨_, He.glo_ok X G (Part.fact c0 37), rfl⟩,
    He.cls_ok (Part.fact c1 42),
    He.noat_ok (Part.fact c2 13),
    He.noat_ok (Part.fact c2 14),
    ⟨_, He.glo_ok X G (Part.fact c0 38), rfl⟩,
    He.cls_ok (Part.fact c2 0),
    He.noat_ok (Part.fact c2 15),
    ⟨_, He.glo_ok X G (Part.fact c0 39), rfl⟩,
    He.cls_ok (Part.fact c2 1),
    He.noat_ok (Part.fact c2 16),
    He.noat_ok (Part.fact c2 17),
    He.noat_ok (Part.fact c2 18),
    He.noat_ok (Part.fact c2 19),
    He.noat_ok (Part.fact c2 20),
    ⟨_, He.glo_ok X G (Part.fact c0 40), rfl⟩,
    He.cls_ok (Part.fact c2 2),
    He.noat_ok (Part.fact c2 21),
    He.noat_ok (Part.fact c2 22),
    ⟨_, He.glo_ok X G (Part.fact c0 41), rfl⟩,
    He.cls_ok (Part.fact c2 3),
    He.noat_ok (Part.fact c2 23),
    He.noat_ok (Part.fact c2 24),
    He.noat_ok (Part.fact c2 25),
    He.noat_ok (Part.fact c2 26),
    He.noat_ok (Part.fact c2 27),
    He.noat_ok (Part.fact c2 28),
    He.noat_ok (Part.fact c2 29),
    He.noat_ok (Part.fact c2 30),
    ⟨_, He.glo_ok X G (Part.fact c0 42), rfl⟩,
    He.cls_ok (Part.fact c2 4),
    He.noat_ok (Part.fact c2 31),
    He.noat_ok (Part.fact c2 32),
    He.noat_ok (Part.fact c2 33),
    He.noat_ok (Part.fact c2 34),
    He.noat_ok (Part.fact c2 35),
    ⟨_, He.glo_ok X G (Part.fact c1 0), rfl⟩,
    He.cls_ok (Part.fact c2 5),
    He.noat_ok (Part.fact c2 36),
    He.noat_ok (Part.fact c2 37),
    He.noat_ok (Part.fact c2 38),
    He.noat_ok (Part.fact c2 39),
    insB_ok (Part.fact c3 37),
    insB_ok (Part.fact c3 38),
    insB_ok (Part.fact c3 39),
    (Part.fact c3 41),
    (by obtain ⟨fd, F⟩ := Part.def_ c0 0; exact ⟨_, fd, F, He.glo_ok X G (Part.fact c0 0)⟩),
    (by obtain ⟨fd, F⟩ := Part.def_ c0 1; exact ⟨_, fd, F, He.glo_ok X G (Part.fact c0 1)⟩),
    (by obtain ⟨fd, F⟩ := Part.def_ c0 2; exact ⟨_, fd, F, He.glo_ok X G (Part.fact c0 2)⟩),
    (by obtain ⟨fd, F⟩ := Part.def_ c0 3; exact ⟨_, fd, F, He.glo_ok X G (Part.fact c0 3)⟩),
    (by obtain ⟨fd, F⟩ := Part.def_ c0 4; exact ⟨_, fd, F, He.glo_ok X G (Part.fact c0 4)⟩),
    (by obtain ⟨fd, F⟩ := Part.def_ c0 5; exact ⟨_, fd, F, He.glo_ok X G (Part.fact c0 5)⟩),
    (by obtain ⟨fd, F⟩ := Part.def_ c0 6; exact ⟨_, fd, F, He.glo_ok X G (Part.fact c0 6)⟩),
    (by obtain ⟨fd, F⟩ := Part.def_ c0 7; exact ⟨_, fd, F, He.glo_ok X G (Part.fact c0 7)⟩),
    (by obtain ⟨fd, F⟩ := Part.def_ c0 8; exact ⟨_, fd, F, He.glo_ok X G (Part.fact c0 8)⟩),
    (by obtain ⟨fd, F⟩ := Part.def_ c0 9; exact ⟨_, fd, F, He.glo_ok X G (Part.fact c0 9)⟩),
    (by obtain ⟨fd, F⟩ := Part.def_ c0 10; exact ⟨_, fd, F, He.mkr_ok (Part.fact c2 6), He.glo_ok X G (Part.fact c0 37)⟩),
    (by obtain ⟨fd, F⟩ := Part.def_ c0 11; exact ⟨_, fd, F, He.meth_ok (Part.fact c2 40)⟩),
    (by obtain ⟨fd, F⟩ := Part.def_ c0 12; exact ⟨_, fd, F, He.meth_ok (Part.fact c2 41)⟩),
    (by obtain ⟨fd, F⟩ := Part.def_ c0 13; exact ⟨_, fd, F, He.glo_ok X G (Part.fact c0 10)⟩),
    (by obtain ⟨fd, F⟩ := Part.def_ c0 14; exact ⟨_, fd, F, He.glo_ok X G (Part.fact c0 11)⟩),
    (by obtain ⟨fd, F⟩ := Part.def_ c0 15; exact ⟨_, fd, F, He.glo_ok X G (Part.fact c0 12)⟩),
    (by obtain ⟨fd, F⟩ := Part.def_ c0 16; exact ⟨_, fd, F, He.mkr_ok (Part.fact c2 7), He.glo_ok X G (Part.fact c0 38)⟩),
    (by obtain ⟨fd, F⟩ := Part.def_ c0 17; exact ⟨_, fd, F, He.mkr_ok (Part.fact c2 8), He.glo_ok X G (Part.fact c0 39)⟩),
    (by obtain ⟨fd, F⟩ := Part.def_ c0 18; exact ⟨_, fd, F, He.meth_ok (Part.fact c2 42)⟩),
    (by obtain ⟨fd, F⟩ := Part.def_ c0 19; obtain ⟨p, hp⟩ := propB_ok (Part.fact c3 33); exact ⟨p, _, fd, hp, F⟩),
    (by obtain ⟨fd, F⟩ := Part.def_ c0 20; exact ⟨_, fd, F, He.meth_ok (Part.fact c3 0)⟩),
    (by obtain ⟨fd, F⟩ := Part.def_ c1 0; obtain ⟨q1, q2, q3⟩ := callB_ok (Part.fact c3 40); exact ⟨_, fd, ⟨q1, q2, q3⟩, F⟩),
    (by obtain ⟨fd, F⟩ := Part.def_ c1 1; exact ⟨_, fd, F, He.meth_ok (Part.fact c3 2)⟩),
    (by obtain ⟨fd, F⟩ := Part.def_ c1 2; exact ⟨_, fd, F, He.meth_ok (Part.fact c3 3)⟩),
    (by obtain ⟨fd, F⟩ := Part.def_ c1 3; exact ⟨_, fd, F, He.meth_ok (Part.fact c3 4)⟩),
    (by obtain ⟨fd, F⟩ := Part.def_ c1 4; exact ⟨_, fd, F, He.glo_ok X G (Part.fact c0 13)⟩),
    (by obtain ⟨fd, F⟩ := Part.def_ c1 5; exact ⟨_, fd, F, He.glo_ok X G (Part.fact c0 14)⟩),
    (by obtain ⟨fd, F⟩ := Part.def_ c1 6; exact ⟨_, fd, F, He.glo_ok X G (Part.fact c0 15)⟩),
    (by obtain ⟨fd, F⟩ := Part.def_ c1 7; exact ⟨_, fd, F, He.mkr_ok (Part.fact c2 9), He.glo_ok X G (Part.fact c0 40)⟩),
    (by obtain ⟨fd, F⟩ := Part.def_ c1 8; exact ⟨_, fd, F, He.meth_ok (Part.fact c3 5)⟩),
    (by obtain ⟨fd, F⟩ := Part.def_ c1 9; exact ⟨_, fd, F, He.glo_ok X G (Part.fact c0 16)⟩),
    (by obtain ⟨fd, F⟩ := Part.def_ c1 10; exact ⟨_, fd, F, He.glo_ok X G (Part.fact c0 17)⟩),
    (by obtain ⟨fd, F⟩ := Part.def_ c1 11; exact ⟨_, fd, F, He.glo_ok X G (Part.fact c0 18)⟩),
    (by obtain ⟨fd, F⟩ := Part.def_ c1 12; exact ⟨_, fd, F, He.glo_ok X G (Part.fact c0 19)⟩),
    (by obtain ⟨fd, F⟩ := Part.def_ c1 13; exact ⟨_, fd, F, He.glo_ok X G (Part.fact c0 20)⟩),
    (by obtain ⟨fd, F⟩ := Part.def_ c1 14; exact ⟨_, fd, F, He.glo_ok X G (Part.fact c0 21)⟩),
    (by obtain ⟨fd, F⟩ := Part.def_ c1 15; exact ⟨_, fd, F, He.glo_ok X G (Part.fact c0 22)⟩),
    (by obtain ⟨fd, F⟩ := Part.def_ c1 16; exact ⟨_, fd, F, He.glo_ok X G (Part.fact c0 23)⟩),
    (by obtain ⟨fd, F⟩ := Part.def_ c1 17; exact ⟨_, fd, F, He.mkr_ok (Part.fact c2 10), He.glo_ok X G (Part.fact c0 41)⟩),
    (by obtain ⟨fd, F⟩ := Part.def_ c1 18; obtain ⟨p, hp⟩ := propB_ok (Part.fact c3 34); exact ⟨p, _, fd, hp, F⟩),
    (by obtain ⟨fd, F⟩ := Part.def_ c1 19; exact ⟨_, fd, F, He.meth_ok (Part.fact c3 6)⟩),
    (by obtain ⟨fd, F⟩ := Part.def_ c1 20; exact ⟨_, fd, F, He.meth_ok (Part.fact c3 7)⟩),
    (by obtain ⟨fd, F⟩ := Part.def_ c2 0; exact ⟨_, fd, F, He.meth_ok (Part.fact c3 8)⟩),
    (by obtain ⟨fd, F⟩ := Part.def_ c2 1; exact ⟨_, fd, F, He.meth_ok (Part.fact c3 9)⟩),
    (by obtain ⟨fd, F⟩ := Part.def_ c2 2; exact ⟨_, fd, F, He.meth_ok (Part.fact c3 10)⟩),
    (by obtain ⟨fd, F⟩ := Part.def_ c2 3; exact ⟨_, fd, F, He.meth_ok (Part.fact c3 11)⟩),
    (by obtain ⟨fd, F⟩ := Part.def_ c2 4; exact ⟨_, fd, F, He.meth_ok (Part.fact c3 12)⟩),
    (by obtain ⟨fd, F⟩ := Part.def_ c2 5; exact ⟨_, fd, F, He.meth_ok (Part.fact c3 13)⟩),
    (by obtain ⟨fd, F⟩ := Part.def_ c2 6; exact ⟨_, fd, F, He.meth_ok (Part.fact c3 14)⟩),
    (by obtain ⟨fd, F⟩ := Part.def_ c2 7; exact ⟨_, fd, F, He.mkr_ok (Part.fact c2 11), He.glo_ok X G (Part.fact c0 42)⟩),
    (by obtain ⟨fd, F⟩ := Part.def_ c2 8; exact ⟨_, fd, F, He.meth_ok (Part.fact c3 15)⟩),
    (by obtain ⟨fd, F⟩ := Part.def_ c2 9; exact ⟨_, fd, F, He.meth_ok (Part.fact c3 16)⟩),
    (by obtain ⟨fd, F⟩ := Part.def_ c2 10; exact ⟨_, fd, F, He.meth_ok (Part.fact c3 17)⟩),
    (by obtain ⟨fd, F⟩ := Part.def_ c2 11; exact ⟨_, fd, F, He.meth_ok (Part.fact c3 18)⟩),
    (by obtain ⟨fd, F⟩ := Part.def_ c2 12; exact ⟨_, fd, F, He.meth_ok (Part.fact c3 19)⟩),
    (by obtain ⟨fd, F⟩ := Part.def_ c2 13; exact ⟨_, fd, F, He.meth_ok (Part.fact c3 20)⟩),
    (by obtain ⟨fd, F⟩ := Part.def_ c2 14; exact ⟨_, fd, F, He.mkr_ok (Part.fact c2 12), He.glo_ok X G (Part.fact c1 0)⟩),
    (by obtain ⟨fd, F⟩ := Part.def_ c2 15; obtain ⟨p, hp⟩ := propB_ok (Part.fact c3 35); exact ⟨p, _, fd, hp, F⟩),
    (by obtain ⟨fd, F⟩ := Part.def_ c2 16; exact ⟨_, fd, F, He.meth_ok (Part.fact c3 21)⟩),
    (by obtain ⟨fd, F⟩ := Part.def_ c2 17; exact ⟨_, fd, F, He.meth_ok (Part.fact c3 22)⟩),
    (by obtain ⟨fd, F⟩ := Part.def_ c2 18; exact ⟨_, fd, F, He.meth_ok (Part.fact c3 23)⟩),
    (by obtain ⟨fd, F⟩ := Part.def_ c2 19; exact ⟨_, fd, F, He.meth_ok (Part.fact c3 24)⟩),
    (by obtain ⟨fd, F⟩ := Part.def_ c2 20; exact ⟨_, fd, F, He.meth_ok (Part.fact c3 25)⟩),
    (by obtain ⟨fd, F⟩ := Part.def_ c3 0; exact ⟨_, fd, F, He.meth_ok (Part.fact c3 26)⟩),
    (by obtain ⟨fd, F⟩ := Part.def_ c3 1; exact ⟨_, fd, F, He.meth_ok (Part.fact c3 27)⟩),
    (by obtain ⟨fd, F⟩ := Part.def_ c3 2; exact ⟨_, fd, F, He.meth_ok (Part.fact c3 28)⟩),
    (by obtain ⟨fd, F⟩ := Part.def_ c3 3; exact ⟨_, fd, F, He.meth_ok (Part.fact c3 29)⟩),
    (by obtain ⟨fd, F⟩ := Part.def_ c3 4; exact ⟨_, fd, F, He.meth_ok (Part.fact c3 30)⟩),
    (by obtain ⟨fd, F⟩ := Part.def_ c3 5; exact ⟨_, fd, F, He.meth_ok (Part.fact c3 31)⟩),
    (by obtain ⟨fd, F⟩ := Part.def_ c3 6; obtain ⟨p, hp⟩ := propB_ok (Part.fact c3 36); exact ⟨p, _, fd, hp, F⟩),
    (by obtain ⟨fd, F⟩ := Part.def_ c3 7; exact ⟨_, fd, F, He.meth_ok (Part.fact c3 32)⟩),
    (by obtain ⟨fd, F⟩ := Part.def_ c3 8; exact ⟨_, fd, F, He.glo_ok X G (Part.fact c0 24)⟩),
    (by obtain ⟨fd, F⟩ := Part.def_ c3 9; exact ⟨_, fd, F, He.glo_ok X G (Part.fact c0 25)⟩),
    (by obtain ⟨fd, F⟩ := Part.def_ c3 10; exact ⟨_, fd, F, He.glo_ok X G (Part.fact c0 26)⟩),
    (by obtain ⟨fd, F⟩ := Part.def_ c3 11; exact ⟨_, fd, F, He.glo_ok X G (Part.fact c0 27)⟩),
    (by obtain ⟨fd, F⟩ := Part.def_ c3 12; exact ⟨_, fd, F, He.glo_ok X G (Part.fact c0 28)⟩),
    (by obtain ⟨fd, F⟩ := Part.def_ c3 13; exact ⟨_, fd, F, He.glo_ok X G (Part.fact c0 29)⟩),
    (by obtain ⟨fd, F⟩ := Part.def_ c3 14; exact ⟨_, fd, F, He.glo_ok X G (Part.fact c0 30)⟩),
    (by obtain ⟨fd, F⟩ := Part.def_ c3 15; exact ⟨_, fd, F, He.glo_ok X G (Part.fact c0 31)⟩),
    (by obtain ⟨fd, F⟩ := Part.def_ c3 16; exact ⟨_, fd, F, He.glo_ok X G (Part.fact c0 32)⟩),
    (by obtain ⟨fd, F⟩ := Part.def_ c3 17; exact ⟨_, fd, F, He.glo_ok X G (Part.fact c0 33)⟩),
    (by obtain ⟨fd, F⟩ := Part.def_ c3 18; exact ⟨_, fd, F, He.glo_ok X G (Part.fact c0 34)⟩),
    (by obtain ⟨fd, F⟩ := Part.def_ c3 19; exact ⟨_, fd, F, He.glo_ok X G (Part.fact c0 35)⟩),
    (by obtain ⟨fd, F⟩ := Part.def_ c3 20; exact ⟨_, fd, F, He.glo_ok X G (Part.fact c0 36)⟩)⟩
end
end Tc
/-! # The plain law, part 1: rows, deltas, what they do to a text -/
namespace Tc
inductive Row where
  | keep (n : Nat) | drop (n : Nat) | put (cs : List Int)
structure Dl where
  ps : List (List Int)
  ds : List Bool
def ChOk (x : Int) : Prop := 0 ≤ x ∧ x ≤ 1114111 ∧ ¬ (55296 ≤ x ∧ x ≤ 57343)
/-- the sum of what is put -/
def putsLen (D : Dl) : Nat := (D.ps.map List.length).sum
/-- how long a text is behind it -/
def aft (D : Dl) : Nat := (D.ds.filter (!·)).length + putsLen D
/-- how many characters a row takes | gives -/
def Row.ln : Row → Nat
  | .keep n => n
  | .drop n => n
  | .put _ => 0
def before (rs : List Row) : Nat := (rs.map Row.ln).sum
theorem before_nil : before [] = 0 := rfl
theorem before_cons (r : Row) (rs : List Row) : before (r :: rs) = r.ln + before rs := rfl
theorem before_append (a b : List Row) : before (a ++ b) = before a + before b := by
  unfold before
  rw [List.map_append, List.sum_append]
/-- what rows make of a text | what they drop | what they put -/
def rdo : List Row → List Int → List Int
  | [], _ => []
  | .keep n :: rs, t => t.take n ++ rdo rs (t.drop n)
  | .drop n :: rs, t => rdo rs (t.drop n)
  | .put cs :: rs, t => cs ++ rdo rs t
def rdr : List Row → List Int → List Int
  | [], _ => []
  | .keep n :: rs, t => rdr rs (t.drop n)
  | .drop n :: rs, t => t.take n ++ rdr rs (t.drop n)
  | .put _ :: rs, t => rdr rs t
def rputs : List Row → List Int
  | [] => []
  | .put cs :: rs => cs ++ rputs rs
  | .keep _ :: rs => rputs rs
  | .drop _ :: rs => rputs rs
theorem rputs_append : ∀ (a b : List Row), rputs (a ++ b) = rputs a ++ rputs b
  | [], b => rfl
  | .put cs :: a, b => by
    show cs ++ rputs (a ++ b) = (cs ++ rputs a) ++ rputs b
    rw [rputs_append a b, List.append_assoc]
  | .keep _ :: a, b => rputs_append a b
  | .drop _ :: a, b => rputs_append a b
theorem run_append : ∀ (a b : List Row) (t u : List Int), t.length = before a → rdo (a ++ b) (t ++ u) = rdo a t ++ rdo b u
  | [], b, t, u, h => by
    have e : t = [] := List.length_eq_zero_iff.mp h
    subst e
    rfl
  | .put cs :: a, b, t, u, h => by
    have h2 : t.length = before a := by rw [h, before_cons]; exact Nat.zero_add _
    show cs ++ rdo (a ++ b) (t ++ u) = (cs ++ rdo a t) ++ rdo b u
    rw [run_append a b t u h2, List.append_assoc]
  | .keep n :: a, b, t, u, h => by
    have h1 : t.length = n + before a := h
    have h2 : (t.drop n).length = before a := by rw [List.length_drop]; omega
    show (t ++ u).take n ++ rdo (a ++ b) ((t ++ u).drop n) = (t.take n ++ rdo a (t.drop n)) ++ rdo b u
    rw [List.take_append_of_le_length (by omega), List.drop_append_of_le_length (by omega), run_append a b _ u h2, List.append_assoc]
  | .drop n :: a, b, t, u, h => by
    have h1 : t.length = n + before a := h
    have h2 : (t.drop n).length = before a := by rw [List.length_drop]; omega
    show rdo (a ++ b) ((t ++ u).drop n) = rdo a (t.drop n) ++ rdo b u
    rw [List.drop_append_of_le_length (by omega), run_append a b _ u h2]
theorem rdr_append : ∀ (a b : List Row) (t u : List Int), t.length = before a → rdr (a ++ b) (t ++ u) = rdr a t ++ rdr b u
  | [], b, t, u, h => by
    have e : t = [] := List.length_eq_zero_iff.mp h
    subst e
    rfl
  | .put cs :: a, b, t, u, h => by
    have h2 : t.length = before a := by rw [h, before_cons]; exact Nat.zero_add _
    exact rdr_append a b t u h2
  | .keep n :: a, b, t, u, h => by
    have h1 : t.length = n + before a := h
    have h2 : (t.drop n).length = before a := by rw [List.length_drop]; omega
    show rdr (a ++ b) ((t ++ u).drop n) = rdr a (t.drop n) ++ rdr b u
    rw [List.drop_append_of_le_length (by omega), rdr_append a b _ u h2]
  | .drop n :: a, b, t, u, h => by
    have h1 : t.length = n + before a := h
    have h2 : (t.drop n).length = before a := by rw [List.length_drop]; omega
    show (t ++ u).take n ++ rdr (a ++ b) ((t ++ u).drop n) = (t.take n ++ rdr a (t.drop n)) ++ rdr b u
    rw [List.take_append_of_le_length (by omega), List.drop_append_of_le_length (by omega), rdr_append a b _ u h2, List.append_assoc]
/-! ## Gaps -/
/-- the gap of a put behind the first g characters -/
def backAt (ds : List Bool) : Nat → Nat
  | 0 => 0
  | g + 1 => if ds[g]? = some true then backAt ds g else g + 1
def back (ds : List Bool) : Nat := backAt ds ds.length
theorem backAt_le (ds : List Bool) : ∀ g, backAt ds g ≤ g
  | 0 => Nat.le_refl _
  | g + 1 => by
    unfold backAt
    split
    · exact Nat.le_succ_of_le (backAt_le ds g)
    · exact Nat.le_refl _
theorem backAt_all (ds : List Bool) : ∀ g i, backAt ds g ≤ i → i < g → ds[i]? = some true
  | 0, i, _, h => absurd h (Nat.not_lt_zero _)
  | g + 1, i, h1, h2 => by
    unfold backAt at h1
    split at h1
    · rename_i e
      by_cases hi : i = g
      · rw [hi]; exact e
      · exact backAt_all ds g i h1 (by omega)
    · omega
def gstep (D : Dl) : Row → Dl
  | .keep n => ⟨D.ps ++ List.replicate n [], D.ds ++ List.replicate n false⟩
  | .drop n => ⟨D.ps ++ List.replicate n [], D.ds ++ List.replicate n true⟩
  | .put cs => ⟨D.ps.set (back D.ds) (D.ps.getD (back D.ds) [] ++ cs), D.ds⟩
def gaps (rs : List Row) : Dl := rs.foldl gstep ⟨[[]], []⟩
theorem gaps_snoc (rs : List Row) (r : Row) : gaps (rs ++ [r]) = gstep (gaps rs) r := by
  unfold gaps
  rw [List.foldl_append]
  rfl
structure Dl.Wf (D : Dl) : Prop where
  ln : D.ps.length = D.ds.length + 1
  nf : ∀ i, D.ds[i]? = some true → D.ps[i + 1]? = some []
theorem wf_start : Dl.Wf ⟨[[]], []⟩ := ⟨rfl, fun i h => by simp at h⟩
theorem wf_run {D : Dl} (w : D.Wf) (n : Nat) (b : Bool) : Dl.Wf ⟨D.ps ++ List.replicate n [], D.ds ++ List.replicate n b⟩ := by
  refine ⟨by simp [w.ln]; omega, fun i h => ?_⟩
  have hl := w.ln
  by_cases hi : i < D.ds.length
  · have h1 : D.ds[i]? = some true := by rw [← h]; exact (List.getElem?_append_left hi).symm
    show (D.ps ++ List.replicate n [])[i + 1]? = some []
    rw [List.getElem?_append_left (by omega)]
    exact w.nf i h1
  · have hi2 : i < D.ds.length + n := by
      have := (List.getElem?_eq_some_iff.mp h).1
      simpa using this
    show (D.ps ++ List.replicate n [])[i + 1]? = some []
    rw [List.getElem?_append_right (by omega), List.getElem?_replicate, if_pos (by omega)]
theorem wf_gstep {D : Dl} (w : D.Wf) : ∀ r : Row, (gstep D r).Wf
  | .keep n => wf_run w n false
  | .drop n => wf_run w n true
  | .put cs => by
    refine ⟨by show (D.ps.set _ _).length = _; rw [List.length_set]; exact w.ln, fun i h => ?_⟩
    show (D.ps.set _ _)[i + 1]? = some []
    have h1 : D.ds[i]? = some true := h
    have hne : back D.ds ≠ i + 1 := fun e => by
      have hi := (List.getElem?_eq_some_iff.mp h1).1
      have key : ∀ g, i < g → backAt D.ds g ≠ i + 1 := by
        intro g
        induction g with
        | zero => intro h; omega
        | succ g ih =>
          intro hg
          unfold backAt
          split
          · rename_i e2
            by_cases hgi : g = i
            · have := backAt_le D.ds g
              omega
            · exact ih (by omega)
          · rename_i e2
            intro q
            have : g = i := by omega
            rw [this] at e2
            exact e2 h1
      exact key _ hi e
    rw [List.getElem?_set_ne hne]
    exact w.nf i h1
theorem wf_foldl : ∀ (rs : List Row) {D : Dl}, D.Wf → (rs.foldl gstep D).Wf
  | [], _, w => w
  | r :: rs, _, w => wf_foldl rs (wf_gstep w r)
theorem wf_gaps (rs : List Row) : (gaps rs).Wf := wf_foldl rs wf_start
theorem ds_gstep (D : Dl) : ∀ r : Row, (gstep D r).ds.length = D.ds.length + r.ln
  | .keep n => by simp [gstep, Row.ln]
  | .drop n => by simp [gstep, Row.ln]
  | .put cs => rfl
theorem ds_foldl : ∀ (rs : List Row) (D : Dl), (rs.foldl gstep D).ds.length = D.ds.length + before rs
  | [], _ => rfl
  | r :: rs, D => by
    rw [List.foldl_cons, ds_foldl rs, ds_gstep, before_cons]
    omega
theorem ds_gaps (rs : List Row) : (gaps rs).ds.length = before rs := by
  unfold gaps
  rw [ds_foldl]
  show 0 + before rs = before rs
  omega
/-! ## What a delta does: by its first gaps -/
def gapc (D : Dl) (t : List Int) (g : Nat) : List Int := D.ps.getD g [] ++ (if D.ds[g]? = some false then [t.getD g 0] else [])
def appTo (D : Dl) (t : List Int) (k : Nat) : List Int := (List.range k).flatMap (gapc D t)
def app (D : Dl) (t : List Int) : List Int := appTo D t (D.ds.length + 1)
def drTo (D : Dl) (t : List Int) (k : Nat) : List Int := (List.range k).flatMap fun g => if D.ds[g]? = some true then [t.getD g 0] else []
def dr (D : Dl) (t : List Int) : List Int := drTo D t D.ds.length
theorem flatMap_range_succ {α : Type} (f : Nat → List α) (k : Nat) : (List.range (k + 1)).flatMap f = (List.range k).flatMap f ++ f k := by
  rw [List.range_succ, List.flatMap_append]
  simp
theorem flatMap_congr {α : Type} (f g : Nat → List α) : ∀ (k : Nat), (∀ i, i < k → f i = g i) → (List.range k).flatMap f = (List.range k).flatMap g
  | 0, _ => rfl
  | k + 1, h => by
    rw [flatMap_range_succ, flatMap_range_succ, flatMap_congr f g k fun i hi => h i (by omega), h k (by omega)]
theorem appTo_succ (D : Dl) (t : List Int) (k : Nat) : appTo D t (k + 1) = appTo D t k ++ gapc D t k := flatMap_range_succ _ _
theorem drTo_succ (D : Dl) (t : List Int) (k : Nat) : drTo D t (k + 1) = drTo D t k ++ (if D.ds[k]? = some true then [t.getD k 0] else []) := flatMap_range_succ _ _
/-- the text ahead of the last gap -/
theorem app_eq (D : Dl) (t : List Int) : app D t = appTo D t D.ds.length ++ D.ps.getD D.ds.length [] := by
  unfold app
  rw [appTo_succ]
  unfold gapc
  rw [List.getElem?_eq_none (Nat.le_refl _)]
  simp
theorem app_wf {D : Dl} (w : D.Wf) (t : List Int) : app D t = appTo D t D.ps.length := by
  unfold app
  rw [w.ln]
theorem getD_append_left {t u : List Int} {g : Nat} (h : g < t.length) : (t ++ u).getD g 0 = t.getD g 0 := by
  simp [List.getD_eq_getElem?_getD, List.getElem?_append_left h]
/-- gaps ahead of k read the delta and the text there alone -/
theorem appTo_ext {D E : Dl} {t u : List Int} {k : Nat} (h1 : ∀ g, g < k → D.ps.getD g [] = E.ps.getD g []) (h2 : ∀ g, g < k → D.ds[g]? = E.ds[g]?) (h3 : ∀ g, g < k → D.ds[g]? = some false → t.getD g 0 = u.getD g 0) : appTo D t k = appTo E u k :=
  flatMap_congr _ _ k fun g hg => by
    unfold gapc
    rw [h1 g hg, ← h2 g hg]
    by_cases e : D.ds[g]? = some false
    · rw [if_pos e, if_pos e, h3 g hg e]
    · rw [if_neg e, if_neg e]
theorem drTo_ext {D E : Dl} {t u : List Int} {k : Nat} (h2 : ∀ g, g < k → D.ds[g]? = E.ds[g]?) (h3 : ∀ g, g < k → D.ds[g]? = some true → t.getD g 0 = u.getD g 0) : drTo D t k = drTo E u k :=
  flatMap_congr _ _ k fun g hg => by
    rw [← h2 g hg]
    by_cases e : D.ds[g]? = some true
    · rw [if_pos e, if_pos e, h3 g hg e]
    · rw [if_neg e, if_neg e]
/-! ## Rows and their gaps do the same -/
theorem app_put {D : Dl} (w : D.Wf) (cs t : List Int) : app (gstep D (.put cs)) t = app D t ++ cs := by
  -- behind the gap nothing is put, and all is dropped
  have hb : back D.ds ≤ D.ds.length := backAt_le _ _
  have tail : ∀ k, back D.ds ≤ k → k ≤ D.ds.length → appTo (gstep D (.put cs)) t (k + 1) = appTo D t (k + 1) ++ (if D.ds[k]? = some false then [] else cs) ∧ (k < D.ds.length → D.ds[k]? = some true) := by
    intro k hk hk2
    refine ⟨?_, fun h => backAt_all D.ds _ k hk h⟩
    induction k with
    | zero =>
      have e0 : back D.ds = 0 := by omega
      rw [appTo_succ, appTo_succ]
      show ([] : List Int) ++ gapc _ t 0 = ([] ++ gapc D t 0) ++ _
      have ex : (gstep D (.put cs)).ps.getD 0 [] = D.ps.getD 0 [] ++ cs := by
        show (D.ps.set (back D.ds) _).getD 0 [] = _
        have hl := w.ln
        rw [List.getD_eq_getElem?_getD, e0, List.getElem?_set_self (by omega)]
        rfl
      unfold gapc
      rw [ex]
      show [] ++ ((D.ps.getD 0 [] ++ cs) ++ if D.ds[0]? = some false then [t.getD 0 0] else []) = _
      have hn : D.ds[0]? ≠ some false := fun e => by
        by_cases h : 0 < D.ds.length
        · have := backAt_all D.ds _ 0 hk h
          rw [this] at e
          cases e
        · rw [List.getElem?_eq_none (by omega)] at e
          cases e
      rw [if_neg hn, if_neg hn]
      simp
    | succ k ih =>
      rw [appTo_succ, appTo_succ D]
      have hn : D.ds[k + 1]? ≠ some false := fun e => by
        by_cases h : k + 1 < D.ds.length
        · have := backAt_all D.ds _ (k + 1) hk h
          rw [this] at e
          cases e
        · rw [List.getElem?_eq_none (by omega)] at e
          cases e
      have hl := w.ln
      by_cases hbk : back D.ds = k + 1
      · have e1 : appTo (gstep D (.put cs)) t (k + 1) = appTo D t (k + 1) := appTo_ext (fun g hg => by
            show (D.ps.set (back D.ds) _).getD g [] = _
            rw [List.getD_eq_getElem?_getD, List.getElem?_set_ne (by omega), ← List.getD_eq_getElem?_getD]) (fun _ _ => rfl) (fun _ _ _ => rfl)
        rw [e1]
        have ex : (gstep D (.put cs)).ps.getD (k + 1) [] = D.ps.getD (k + 1) [] ++ cs := by
          show (D.ps.set (back D.ds) _).getD (k + 1) [] = _
          rw [List.getD_eq_getElem?_getD, hbk, List.getElem?_set_self (by omega)]
          rfl
        unfold gapc
        rw [ex]
        show appTo D t (k + 1) ++ ((D.ps.getD (k + 1) [] ++ cs) ++ if D.ds[k + 1]? = some false then [t.getD (k + 1) 0] else []) = _
        rw [if_neg hn, if_neg hn]
        simp
      · have hk' : back D.ds ≤ k := by omega
        have hkt : D.ds[k]? = some true := backAt_all D.ds _ k hk' (by omega)
        rw [ih hk' (by omega)]
        have hnk : D.ds[k]? ≠ some false := by rw [hkt]; intro q; cases q
        rw [if_neg hnk, if_neg hn]
        have en := w.nf k hkt
        have ex : (gstep D (.put cs)).ps.getD (k + 1) [] = [] := by
          show (D.ps.set (back D.ds) _).getD (k + 1) [] = _
          rw [List.getD_eq_getElem?_getD, List.getElem?_set_ne hbk, en]
          rfl
        have ex2 : D.ps.getD (k + 1) [] = [] := by
          rw [List.getD_eq_getElem?_getD, en]
          rfl
        unfold gapc
        rw [ex, ex2]
        show (appTo D t (k + 1) ++ cs) ++ ([] ++ if D.ds[k + 1]? = some false then [t.getD (k + 1) 0] else []) = (appTo D t (k + 1) ++ ([] ++ _)) ++ cs
        rw [if_neg hn]
        simp
  have := (tail D.ds.length hb (Nat.le_refl _)).1
  rw [List.getElem?_eq_none (Nat.le_refl _), if_neg (by intro q; cases q)] at this
  exact this
theorem appTo_run (D : Dl) (w : D.Wf) (b : Bool) (t u : List Int) (ht : t.length = D.ds.length) : ∀ n, n ≤ u.length →
    app ⟨D.ps ++ List.replicate n [], D.ds ++ List.replicate n b⟩ (t ++ u) = app D t ++ (if b then [] else u.take n)
  | 0, _ => by
    simp only [List.replicate_zero, List.append_nil, List.take_zero]
    have e : app D (t ++ u) = app D t := appTo_ext (fun _ _ => rfl) (fun _ _ => rfl) fun g hg e => getD_append_left (by have := (List.getElem?_eq_some_iff.mp e).1; omega)
    show app D (t ++ u) = _
    rw [e]
    cases b <;> simp
  | n + 1, hn => by
    have ih := appTo_run D w b t u ht n (by omega)
    have wn := wf_run w n b
    have l1 : (D.ds ++ List.replicate (n + 1) b).length = D.ds.length + n + 1 := by simp; omega
    have l0 : (D.ds ++ List.replicate n b).length = D.ds.length + n := by simp
    have hl := w.ln
    rw [app_eq] at ih ⊢
    show appTo _ _ (D.ds ++ List.replicate (n + 1) b).length ++ (D.ps ++ List.replicate (n + 1) []).getD (D.ds ++ List.replicate (n + 1) b).length [] = _
    rw [l1]
    have e0 : (D.ps ++ List.replicate (n + 1) []).getD (D.ds.length + n + 1) [] = ([] : List Int) := by
      rw [List.getD_eq_getElem?_getD]
      rw [List.getElem?_append_right (by omega), List.getElem?_replicate]
      split <;> rfl
    rw [e0, List.append_nil, appTo_succ]
    have e1 : appTo ⟨D.ps ++ List.replicate (n + 1) [], D.ds ++ List.replicate (n + 1) b⟩ (t ++ u) (D.ds.length + n) = appTo ⟨D.ps ++ List.replicate n [], D.ds ++ List.replicate n b⟩ (t ++ u) (D.ds.length + n) := by
      refine appTo_ext (fun g hg => ?_) (fun g hg => ?_) (fun _ _ _ => rfl)
      · show (D.ps ++ List.replicate (n + 1) []).getD g [] = (D.ps ++ List.replicate n []).getD g []
        rw [List.getD_eq_getElem?_getD, List.getD_eq_getElem?_getD]
        by_cases h : g < D.ps.length
        · rw [List.getElem?_append_left h, List.getElem?_append_left h]
        · rw [List.getElem?_append_right (by omega), List.getElem?_append_right (by omega), List.getElem?_replicate, List.getElem?_replicate, if_pos (by omega), if_pos (by omega)]
      · show (D.ds ++ List.replicate (n + 1) b)[g]? = (D.ds ++ List.replicate n b)[g]?
        by_cases h : g < D.ds.length
        · rw [List.getElem?_append_left h, List.getElem?_append_left h]
        · rw [List.getElem?_append_right (by omega), List.getElem?_append_right (by omega), List.getElem?_replicate, List.getElem?_replicate, if_pos (by omega), if_pos (by omega)]
    rw [e1]
    have ih' : appTo ⟨D.ps ++ List.replicate n [], D.ds ++ List.replicate n b⟩ (t ++ u) (D.ds.length + n) ++ (D.ps ++ List.replicate n []).getD (D.ds.length + n) [] = app D t ++ (if b then [] else u.take n) := by
      rw [← ih]
      show _ = appTo _ _ (D.ds ++ List.replicate n b).length ++ (D.ps ++ List.replicate n []).getD (D.ds ++ List.replicate n b).length []
      rw [l0]
    have eg : gapc ⟨D.ps ++ List.replicate (n + 1) [], D.ds ++ List.replicate (n + 1) b⟩ (t ++ u) (D.ds.length + n) = (D.ps ++ List.replicate n []).getD (D.ds.length + n) [] ++ (if b then [] else [u.getD n 0]) := by
      unfold gapc
      have a1 : (D.ps ++ List.replicate (n + 1) []).getD (D.ds.length + n) [] = (D.ps ++ List.replicate n []).getD (D.ds.length + n) ([] : List Int) := by
        rw [List.getD_eq_getElem?_getD, List.getD_eq_getElem?_getD]
        by_cases h : D.ds.length + n < D.ps.length
        · rw [List.getElem?_append_left h, List.getElem?_append_left h]
        · rw [List.getElem?_append_right (by omega), List.getElem?_append_right (by omega), List.getElem?_replicate, List.getElem?_replicate]
          split <;> split <;> rfl
      have a2 : (D.ds ++ List.replicate (n + 1) b)[D.ds.length + n]? = some b := by
        rw [List.getElem?_append_right (by omega), List.getElem?_replicate, if_pos (by omega)]
      have a3 : (t ++ u).getD (D.ds.length + n) 0 = u.getD n 0 := by
        rw [List.getD_eq_getElem?_getD, List.getElem?_append_right (by omega), ← List.getD_eq_getElem?_getD]
        congr 1
        omega
      show (D.ps ++ List.replicate (n + 1) []).getD (D.ds.length + n) [] ++ (if (D.ds ++ List.replicate (n + 1) b)[D.ds.length + n]? = some false then [(t ++ u).getD (D.ds.length + n) 0] else []) = _
      rw [a1, a2, a3]
      cases b <;> simp
    rw [eg, ← List.append_assoc, ih', List.append_assoc]
    congr 1
    cases b with
    | true => rfl
    | false =>
      show u.take n ++ [u.getD n 0] = u.take (n + 1)
      rw [List.take_add_one, List.getD_eq_getElem?_getD, List.getElem?_eq_getElem (show n < u.length by omega)]
      rfl
theorem app_foldl : ∀ (rs : List Row) {D : Dl}, D.Wf → ∀ (t u : List Int), t.length = D.ds.length → u.length = before rs → app (rs.foldl gstep D) (t ++ u) = app D t ++ rdo rs u
  | [], D, w, t, u, ht, hu => by
    have e : u = [] := List.length_eq_zero_iff.mp hu
    subst e
    rw [List.append_nil]
    show app D t = app D t ++ []
    rw [List.append_nil]
  | .put cs :: rs, D, w, t, u, ht, hu => by
    have hu2 : u.length = before rs := by rw [hu, before_cons]; exact Nat.zero_add _
    have e := app_foldl rs (wf_gstep w (.put cs)) t u (show t.length = (gstep D (.put cs)).ds.length from ht) hu2
    rw [List.foldl_cons, e, app_put w, List.append_assoc]
    rfl
  | .keep n :: rs, D, w, t, u, ht, hu => by
    have hu1 : u.length = n + before rs := hu
    have h2 : (u.drop n).length = before rs := by rw [List.length_drop]; omega
    have h3 : (t ++ u.take n).length = (gstep D (.keep n)).ds.length := by rw [ds_gstep, List.length_append, List.length_take, ht]; show _ + min n u.length = _ + n; omega
    have e := app_foldl rs (wf_gstep w (.keep n)) (t ++ u.take n) (u.drop n) h3 h2
    rw [List.append_assoc, List.take_append_drop] at e
    rw [List.foldl_cons, e]
    have e2 := appTo_run D w false t (u.take n) ht n (by rw [List.length_take]; omega)
    rw [List.take_take, Nat.min_self] at e2
    show app ⟨D.ps ++ List.replicate n [], D.ds ++ List.replicate n false⟩ (t ++ u.take n) ++ rdo rs (u.drop n) = app D t ++ (u.take n ++ rdo rs (u.drop n))
    rw [e2]
    simp
  | .drop n :: rs, D, w, t, u, ht, hu => by
    have hu1 : u.length = n + before rs := hu
    have h2 : (u.drop n).length = before rs := by rw [List.length_drop]; omega
    have h3 : (t ++ u.take n).length = (gstep D (.drop n)).ds.length := by rw [ds_gstep, List.length_append, List.length_take, ht]; show _ + min n u.length = _ + n; omega
    have e := app_foldl rs (wf_gstep w (.drop n)) (t ++ u.take n) (u.drop n) h3 h2
    rw [List.append_assoc, List.take_append_drop] at e
    rw [List.foldl_cons, e]
    have e2 := appTo_run D w true t (u.take n) ht n (by rw [List.length_take]; omega)
    show app ⟨D.ps ++ List.replicate n [], D.ds ++ List.replicate n true⟩ (t ++ u.take n) ++ rdo rs (u.drop n) = app D t ++ rdo rs (u.drop n)
    rw [e2]
    simp
theorem app_gaps (rs : List Row) (t : List Int) (h : t.length = before rs) : app (gaps rs) t = rdo rs t := by
  have e := app_foldl rs wf_start [] t rfl h
  exact e
/-! ## What rows drop, what they put -/
theorem drTo_run (D : Dl) (b : Bool) (t u : List Int) (ht : t.length = D.ds.length) : ∀ n, n ≤ u.length →
    dr ⟨D.ps ++ List.replicate n [], D.ds ++ List.replicate n b⟩ (t ++ u) = dr D t ++ (if b then u.take n else [])
  | 0, _ => by
    simp only [List.replicate_zero, List.append_nil, List.take_zero]
    have e : dr D (t ++ u) = dr D t := drTo_ext (fun _ _ => rfl) fun g hg e => getD_append_left (by have := (List.getElem?_eq_some_iff.mp e).1; omega)
    show dr D (t ++ u) = _
    rw [e]
    cases b <;> simp
  | n + 1, hn => by
    have ih := drTo_run D b t u ht n (by omega)
    have l1 : (D.ds ++ List.replicate (n + 1) b).length = D.ds.length + n + 1 := by simp; omega
    have l0 : (D.ds ++ List.replicate n b).length = D.ds.length + n := by simp
    have e1 : drTo ⟨D.ps ++ List.replicate (n + 1) [], D.ds ++ List.replicate (n + 1) b⟩ (t ++ u) (D.ds.length + n) = drTo ⟨D.ps ++ List.replicate n [], D.ds ++ List.replicate n b⟩ (t ++ u) (D.ds.length + n) := by
      refine drTo_ext (fun g hg => ?_) (fun _ _ _ => rfl)
      show (D.ds ++ List.replicate (n + 1) b)[g]? = (D.ds ++ List.replicate n b)[g]?
      by_cases h : g < D.ds.length
      · rw [List.getElem?_append_left h, List.getElem?_append_left h]
      · rw [List.getElem?_append_right (by omega), List.getElem?_append_right (by omega), List.getElem?_replicate, List.getElem?_replicate, if_pos (by omega), if_pos (by omega)]
    have a2 : (D.ds ++ List.replicate (n + 1) b)[D.ds.length + n]? = some b := by
      rw [List.getElem?_append_right (by omega), List.getElem?_replicate, if_pos (by omega)]
    have a3 : (t ++ u).getD (D.ds.length + n) 0 = u.getD n 0 := by
      rw [List.getD_eq_getElem?_getD, List.getElem?_append_right (by omega), ← List.getD_eq_getElem?_getD]
      congr 1
      omega
    show drTo _ _ (D.ds ++ List.replicate (n + 1) b).length = _
    rw [l1, drTo_succ, e1]
    have ih' : drTo ⟨D.ps ++ List.replicate n [], D.ds ++ List.replicate n b⟩ (t ++ u) (D.ds.length + n) = dr D t ++ (if b then u.take n else []) := by
      rw [← ih]
      show _ = drTo _ _ (D.ds ++ List.replicate n b).length
      rw [l0]
    rw [ih']
    show _ ++ (if (D.ds ++ List.replicate (n + 1) b)[D.ds.length + n]? = some true then [(t ++ u).getD (D.ds.length + n) 0] else []) = _
    rw [a2, a3, List.append_assoc]
    congr 1
    cases b with
    | false => rfl
    | true =>
      show u.take n ++ [u.getD n 0] = u.take (n + 1)
      rw [List.take_add_one, List.getD_eq_getElem?_getD, List.getElem?_eq_getElem (show n < u.length by omega)]
      rfl
theorem dr_foldl : ∀ (rs : List Row) (D : Dl) (t u : List Int), t.length = D.ds.length → u.length = before rs → dr (rs.foldl gstep D) (t ++ u) = dr D t ++ rdr rs u
  | [], D, t, u, ht, hu => by
    have e : u = [] := List.length_eq_zero_iff.mp hu
    subst e
    rw [List.append_nil]
    show dr D t = dr D t ++ []
    rw [List.append_nil]
  | .put cs :: rs, D, t, u, ht, hu => by
    have hu2 : u.length = before rs := by rw [hu, before_cons]; exact Nat.zero_add _
    exact dr_foldl rs (gstep D (.put cs)) t u ht hu2
  | .keep n :: rs, D, t, u, ht, hu => by
    have hu1 : u.length = n + before rs := hu
    have h2 : (u.drop n).length = before rs := by rw [List.length_drop]; omega
    have h3 : (t ++ u.take n).length = (gstep D (.keep n)).ds.length := by rw [ds_gstep, List.length_append, List.length_take, ht]; show _ + min n u.length = _ + n; omega
    have e := dr_foldl rs (gstep D (.keep n)) (t ++ u.take n) (u.drop n) h3 h2
    rw [List.append_assoc, List.take_append_drop] at e
    rw [List.foldl_cons, e]
    have e2 := drTo_run D false t (u.take n) ht n (by rw [List.length_take]; omega)
    show dr ⟨D.ps ++ List.replicate n [], D.ds ++ List.replicate n false⟩ (t ++ u.take n) ++ rdr rs (u.drop n) = dr D t ++ rdr rs (u.drop n)
    rw [e2]
    simp
  | .drop n :: rs, D, t, u, ht, hu => by
    have hu1 : u.length = n + before rs := hu
    have h2 : (u.drop n).length = before rs := by rw [List.length_drop]; omega
    have h3 : (t ++ u.take n).length = (gstep D (.drop n)).ds.length := by rw [ds_gstep, List.length_append, List.length_take, ht]; show _ + min n u.length = _ + n; omega
    have e := dr_foldl rs (gstep D (.drop n)) (t ++ u.take n) (u.drop n) h3 h2
    rw [List.append_assoc, List.take_append_drop] at e
    rw [List.foldl_cons, e]
    have e2 := drTo_run D true t (u.take n) ht n (by rw [List.length_take]; omega)
    rw [List.take_take, Nat.min_self] at e2
    show dr ⟨D.ps ++ List.replicate n [], D.ds ++ List.replicate n true⟩ (t ++ u.take n) ++ rdr rs (u.drop n) = dr D t ++ (u.take n ++ rdr rs (u.drop n))
    rw [e2]
    simp
theorem dr_gaps (rs : List Row) (t : List Int) (h : t.length = before rs) : dr (gaps rs) t = rdr rs t := dr_foldl rs ⟨[[]], []⟩ [] t rfl h
theorem flatten_set {l : List (List Int)} {b : Nat} {cs : List Int} (hb : b < l.length) (h : ∀ i, b < i → i < l.length → l[i]? = some []) : (l.set b (l.getD b [] ++ cs)).flatten = l.flatten ++ cs := by
  induction l generalizing b with
  | nil => exact absurd hb (Nat.not_lt_zero _)
  | cons x r ih =>
    cases b with
    | zero =>
      have hr : r.flatten = [] := by
        rw [List.flatten_eq_nil_iff]
        intro y hy
        obtain ⟨i, hi⟩ := List.getElem?_of_mem hy
        have := h (i + 1) (by omega) (by have := (List.getElem?_eq_some_iff.mp hi).1; simp; omega)
        rw [List.getElem?_cons_succ, hi] at this
        exact Option.some.inj this
      show ((x ++ cs) :: r).flatten = (x :: r).flatten ++ cs
      rw [List.flatten_cons, List.flatten_cons, hr]
      simp
    | succ b =>
      show (x :: r.set b (r.getD b [] ++ cs)).flatten = (x :: r).flatten ++ cs
      rw [List.flatten_cons, List.flatten_cons, ih (by simpa using hb) fun i h1 h2 => by
        have := h (i + 1) (by omega) (by simp; omega)
        rwa [List.getElem?_cons_succ] at this, List.append_assoc]
theorem puts_foldl : ∀ (rs : List Row) {D : Dl}, D.Wf → (rs.foldl gstep D).ps.flatten = D.ps.flatten ++ rputs rs
  | [], D, w => by
    show D.ps.flatten = D.ps.flatten ++ []
    rw [List.append_nil]
  | .put cs :: rs, D, w => by
    rw [List.foldl_cons, puts_foldl rs (wf_gstep w _)]
    have hl := w.ln
    have e : (gstep D (.put cs)).ps.flatten = D.ps.flatten ++ cs := by
      refine flatten_set (by have := backAt_le D.ds D.ds.length; show backAt _ _ < _; omega) fun i h1 h2 => ?_
      obtain ⟨j, rfl⟩ : ∃ j, i = j + 1 := ⟨i - 1, by omega⟩
      have hbk : back D.ds = backAt D.ds D.ds.length := rfl
      exact w.nf j (backAt_all D.ds D.ds.length j (by omega) (by omega))
    rw [e, List.append_assoc]
    rfl
  | .keep n :: rs, D, w => by
    rw [List.foldl_cons, puts_foldl rs (wf_gstep w _)]
    show (D.ps ++ List.replicate n []).flatten ++ rputs rs = _
    rw [List.flatten_append, List.flatten_replicate_nil, List.append_nil]
    rfl
  | .drop n :: rs, D, w => by
    rw [List.foldl_cons, puts_foldl rs (wf_gstep w _)]
    show (D.ps ++ List.replicate n []).flatten ++ rputs rs = _
    rw [List.flatten_append, List.flatten_replicate_nil, List.append_nil]
    rfl
theorem puts_gaps (rs : List Row) : (gaps rs).ps.flatten = rputs rs := by
  have e := puts_foldl rs wf_start
  exact e
end Tc
/-! # How the program's data stand in the abstract heap; short ways to a contract -/
namespace Tc
open PySem PySem.Spec PyProof.Rows L2
/-! ## Heaps -/
/-- the heap without the cells of M | the cells that are new in H' -/
def Msk (H : Hp) (M : List Addr) : Hp := fun b => if b ∈ M then none else H b
def Fr (H H' : Hp) : Hp := fun b => if H b = none then H' b else none
section
variable {H H' H1 H2 : Hp} {M M' : List Addr} {a b p q : Addr} {o : HO}
theorem same_upd (h : H p = none) : Same H (upd H p o) := fun b u e => by
  rw [upd_ne (ne_of_none e h)]
  exact e
theorem same_up (s : Same H H') (h : H' p = none) : Same H (L2.upd H' p o) := s.trans (same_upd h)
/-- a cell that H does not know may change -/
theorem same_mut (s : Same H H') (h : H p = none) : Same H (L2.upd H' p o) := fun b u e => by
  rw [upd_ne (ne_of_none e h)]
  exact s b u e
theorem msk_same : Same (Msk H M) H := fun b u e => by
  unfold Msk at e
  split at e
  · cases e
  · exact e
theorem msk_at (h : b ∉ M) : Msk H M b = H b := if_neg h
theorem msk_in (h : b ∈ M) : Msk H M b = none := if_pos h
theorem msk_mut (h : p ∈ M) : Msk (upd H p o) M = Msk H M := by
  funext b
  unfold Msk
  by_cases hb : b ∈ M
  · rw [if_pos hb, if_pos hb]
  · rw [if_neg hb, if_neg hb, upd_ne fun e => hb (by rw [e]; exact h)]
theorem msk_new (h : p ∉ M) : Msk (upd H p o) M = upd (Msk H M) p o := by
  funext b
  unfold Msk
  by_cases e : b = p
  · subst e
    rw [if_neg h, upd_same, upd_same]
  · rw [upd_ne e, upd_ne e]
theorem msk_mono (s : Same H H') : Same (Msk H M) (Msk H' M) := fun b u e => by
  unfold Msk at e ⊢
  split at e
  · cases e
  · rename_i h
    rw [if_neg h]
    exact s b u e
theorem msk_none (h : H q = none) : Msk H M q = none := by
  unfold Msk
  split
  · rfl
  · exact h
theorem msk_less (h : ∀ b ∈ M', b ∈ M) : Same (Msk H M) (Msk H M') := fun b u e => by
  unfold Msk at e ⊢
  split at e
  · cases e
  · rename_i hb
    rw [if_neg fun z => hb (h b z)]
    exact e
theorem same_of_msk (h : ∀ m ∈ M, H m = none) (s : Same H H') : Same H (Msk H' M) := fun b u e => by
  unfold Msk
  rw [if_neg fun z => by rw [h b z] at e; cases e]
  exact s b u e
theorem fr_same : Same (Fr H H') H' := fun b u e => by
  unfold Fr at e
  split at e
  · exact e
  · cases e
theorem fr_new (e : Fr H H' b = some o) : H b = none := by
  unfold Fr at e
  split at e
  · assumption
  · cases e
theorem fr_of (h : ∀ b u, H1 b = some u → H b = none) (s : Same H1 H') : Same H1 (Fr H H') := fun b u e => by
  unfold Fr
  rw [if_pos (h b u e)]
  exact s b u e
/-- what is new behind H1 is new behind H, if H1 knows what H knows -/
theorem fr_wide (h : ∀ b, H b ≠ none → H1 b ≠ none) : Same (Fr H1 H') (Fr H H') := fun b u e => by
  have hn := fr_new e
  unfold Fr
  rw [if_pos (Decidable.byContradiction fun z => h b z hn)]
  exact fr_same b u e
theorem fr_next (s : Same H1 H2) : Same (Fr H H1) (Fr H H2) := fun b u e => by
  have hn := fr_new e
  unfold Fr
  rw [if_pos hn]
  exact s b u (fr_same b u e)
theorem fr_msk (h : ∀ m ∈ M, H m ≠ none) : Same (Fr H H') (Msk H' M) := fun b u e => by
  unfold Msk
  rw [if_neg fun z => h b z (fr_new e)]
  exact fr_same b u e
theorem dom_same (s : Same H H') : ∀ b, H b ≠ none → H' b ≠ none := fun b h => by
  cases e : H b with
  | none => exact absurd e h
  | some u => rw [s b u e]; intro z; cases z
theorem dom_upd : ∀ b, H b ≠ none → upd H p o b ≠ none := fun b h => by
  by_cases e : b = p
  · rw [e, upd_same]; intro z; cases z
  · rw [upd_ne e]; exact h
end
/-! ## Data -/
/-- a list of ints -/
def LAt (H : Hp) (a : Addr) (t : List Int) : Prop := H a = some (.lst (t.map V.int))
def txF (l : Addr) (v : V) : List (Str × V) := [("own_chars", .ref l), ("own_counts", v)]
def TextAt (c : Cs) (H : Hp) (a : Addr) (t : List Int) : Prop := ∃ dx l v, H a = some (.ins c.tx dx (txF l v)) ∧ LAt H l t
/-- a list of lists of ints -/
def LLAt (H : Hp) (p : Addr) (ps : List (List Int)) : Prop := ∃ as : List Addr, H p = some (.lst (as.map V.ref)) ∧ Paired (LAt H) as ps
def RowAt (H : Hp) (a : Addr) : Row → Prop
  | .keep n => H a = some (.tup [.str "keep", .int n])
  | .drop n => H a = some (.tup [.str "drop", .int n])
  | .put cs => ∃ l, H a = some (.tup [.str "put", .ref l]) ∧ LAt H l cs
def RowsAt (H : Hp) (r : Addr) (rs : List Row) : Prop := ∃ as : List Addr, H r = some (.lst (as.map V.ref)) ∧ Paired (RowAt H) as rs
def deF (r p d : Addr) (n m : Int) : List (Str × V) := [("own_rows", .ref r), ("puts", .ref p), ("drops", .ref d), ("own_before", .int n), ("own_after", .int m)]
def DelAt (c : Cs) (H : Hp) (a : Addr) (D : Dl) : Prop := ∃ dx r p d rs, H a = some (.ins c.de dx (deF r p d D.ds.length (aft D))) ∧ RowsAt H r rs ∧ gaps rs = D ∧ rs.length ≤ 2 * D.ds.length + 1 ∧ LLAt H p D.ps ∧ H d = some (.lst (D.ds.map V.bl))
section
variable {c : Cs} {H H' : Hp}
theorem pr_imp {α β : Type} {F G : α → β → Prop} (h : ∀ a b, F a b → G a b) : ∀ {l : List α} {m : List β}, Paired F l m → Paired G l m
  | _, _, .nil => .nil
  | _, _, .cons r t => .cons (h _ _ r) (pr_imp h t)
theorem pr_app {α β : Type} {F : α → β → Prop} : ∀ {l : List α} {m : List β} {l' : List α} {m' : List β}, Paired F l m → Paired F l' m' → Paired F (l ++ l') (m ++ m')
  | _, _, _, _, .nil, s => s
  | _, _, _, _, .cons r t, s => .cons r (pr_app t s)
theorem pr_at {α β : Type} {F : α → β → Prop} : ∀ {l : List α} {m : List β} {i : Nat} {x : β}, Paired F l m → m[i]? = some x → ∃ a, l[i]? = some a ∧ F a x
  | _, _, _, _, .nil, e => by simp at e
  | _, _, 0, x, .cons r _, e => by simp at e; subst e; exact ⟨_, rfl, r⟩
  | _, _, i + 1, x, .cons _ t, e => by
    obtain ⟨a, h1, h2⟩ := pr_at (i := i) t (by simpa using e)
    exact ⟨a, by simpa using h1, h2⟩
theorem pr_at2 {α β : Type} {F : α → β → Prop} : ∀ {l : List α} {m : List β} {i : Nat} {a : α}, Paired F l m → l[i]? = some a → ∃ x, m[i]? = some x ∧ F a x
  | _, _, _, _, .nil, e => by simp at e
  | _, _, 0, x, .cons r _, e => by simp at e; subst e; exact ⟨_, rfl, r⟩
  | _, _, i + 1, x, .cons _ t, e => by
    obtain ⟨a, h1, h2⟩ := pr_at2 (i := i) t (by simpa using e)
    exact ⟨a, by simpa using h1, h2⟩
theorem pr_put {α β : Type} {F : α → β → Prop} {a : α} {x : β} (r : F a x) : ∀ {l : List α} {m : List β} (i : Nat), Paired F l m → Paired F (l.set i a) (m.set i x)
  | _, _, _, .nil => .nil
  | _, _, 0, .cons _ t => .cons r t
  | _, _, i + 1, .cons q t => .cons q (pr_put r i t)
theorem LAt.mono (s : Same H H') {a : Addr} {t : List Int} (h : LAt H a t) : LAt H' a t := s _ _ h
theorem TextAt.mono (s : Same H H') {a : Addr} {t : List Int} (h : TextAt c H a t) : TextAt c H' a t := by
  obtain ⟨dx, l, v, h1, h2⟩ := h
  exact ⟨dx, l, v, s _ _ h1, h2.mono s⟩
theorem LLAt.mono (s : Same H H') {a : Addr} {t : List (List Int)} (h : LLAt H a t) : LLAt H' a t := by
  obtain ⟨as, h1, h2⟩ := h
  exact ⟨as, s _ _ h1, pr_imp (fun _ _ z => z.mono s) h2⟩
theorem RowAt.mono (s : Same H H') {a : Addr} : ∀ {r : Row}, RowAt H a r → RowAt H' a r
  | .keep _, h => s _ _ h
  | .drop _, h => s _ _ h
  | .put _, ⟨l, h1, h2⟩ => ⟨l, s _ _ h1, h2.mono s⟩
theorem RowsAt.mono (s : Same H H') {a : Addr} {rs : List Row} (h : RowsAt H a rs) : RowsAt H' a rs := by
  obtain ⟨as, h1, h2⟩ := h
  exact ⟨as, s _ _ h1, pr_imp (fun _ _ z => z.mono s) h2⟩
theorem DelAt.mono (s : Same H H') {a : Addr} {D : Dl} (h : DelAt c H a D) : DelAt c H' a D := by
  obtain ⟨dx, r, p, d, rs, h1, h2, h3, h4, h5, h6⟩ := h
  exact ⟨dx, r, p, d, rs, s _ _ h1, h2.mono s, h3, h4, h5.mono s, s _ _ h6⟩
theorem DelAt.wf {a : Addr} {D : Dl} (h : DelAt c H a D) : D.Wf := by
  obtain ⟨dx, r, p, d, rs, h1, h2, h3, h4, h5, h6⟩ := h
  rw [← h3]
  exact wf_gaps rs
end
/-! ## From a def of the text to its contract -/
section
variable {P : Program} {w : World} {K : PySem.W.Frag} {mg : Str → Option Value} {base : Heap} {x m qual : Str} {st : Stmt} {N ps : List Str} {k : Nat} {sp : Sp} {C : Addr} {dvs : List V}
abbrev BindsB (x : Str) (qual : Str) (st : Stmt) (ps : List Str) : Prop := ∀ (kV doc pm : Value) (an : Option Addr) (cdv ct : Value) (us : List Value), us.length = ps.length → bindArgs (PySem.W.fnOf x qual (defArgs st) (defBody st) (defScope st) .none kV doc pm an cdv ct) ⟨us, []⟩ = pure (ps.zip us)
abbrev Body (P : Program) (w : World) (K : PySem.W.Frag) (mg : Str → Option Value) (base : Heap) (k : Nat) (N : List Str) (qual : Str) (st : Stmt) (sp : Sp) : Prop :=
  ∀ (f : Addr) (cdv : Value) (A : Around) (outer : List Env) (s : Shared) (H : Hp) (vs : List V) (Q : VK) (E : XK), Room k (A.deeper (envOfC qual (defScope st) s.heap.objs.size f cdv)) → sp vs H Q E →
    ∃ t, PSs (cxOf CX0 P w K mg base N qual (defScope st) f cdv A outer s H E).nox (defBody st) t ∧ t { nx := fun _ H' => Q .non H', rt := Q } (start N vs) H
theorem FunX.okB {f : Addr} {fd : FuncData} (F : FunX K x qual st dvs f fd) (S : FnScope N ps (defScope st)) (len : ∀ vs H Q E, sp vs H Q E → vs.length = ps.length) (hb : Body P w K mg base k N qual st sp) : FnOk P w K mg base CX0 (k + 1) f fd ps sp :=
  F.ok S len fun cdv A outer s H vs Q E hr h => by
    obtain ⟨t, h1, h2⟩ := hb f cdv A outer s H vs Q E hr h
    exact ⟨t, h1.nox, h2⟩
theorem DG.gf (D : DG K mg x st) (S : FnScope N ps (defScope st)) (b : BindsB x x st ps) (len : ∀ vs H Q E, sp vs H Q E → vs.length = ps.length) (hb : Body P w K mg base k N x st sp) : GF P w K mg base (k + 1) x ps sp := by
  obtain ⟨f, fd, F, hm⟩ := D.ex
  exact ⟨f, fd, F.okB S len hb, hm, F.kp, F.bindsN b⟩
theorem DM.mf (D : DM K C m qual st []) (S : FnScope N ps (defScope st)) (b : BindsB m qual st ps) (len : ∀ vs H Q E, sp vs H Q E → vs.length = ps.length) (hb : Body P w K mg base k N qual st sp) : MF P w K mg base (k + 1) C m ps [] sp := by
  obtain ⟨f, fd, F, hm⟩ := D.ex
  exact ⟨f, fd, [], F.okB S len hb, hm, F.bindsN b, .nil⟩
theorem DM.sf (D : DM K C m qual st []) (hs : PySem.W.selfFirst K C = true) (S : FnScope N ps (defScope st)) (b : BindsB m qual st ps) (len : ∀ vs H Q E, sp vs H Q E → vs.length = ps.length) (hb : Body P w K mg base k N qual st sp) : SF P w K mg base (k + 1) C m sp := by
  obtain ⟨f, fd, F, hm⟩ := D.ex
  exact ⟨f, fd, ps, F.okB S len hb, hm, F.bindsN b, hs⟩
theorem DK.kf (D : DK K mg x C qual st) (S : FnScope N ps (defScope st)) (b : BindsB "__init__" qual st ps) (len : ∀ vs H Q E, sp vs H Q E → vs.length = ps.length) (hb : Body P w K mg base k N qual st sp) : KF P w K mg base (k + 1) x C ps sp := by
  obtain ⟨f, fd, F, hm, hg⟩ := D.ex
  exact ⟨f, fd, F.okB S len hb, hm, hg, F.bindsN b⟩
theorem DP.pf (D : DP K C m qual st) (S : FnScope N ["self"] (defScope st)) (b : BindsB m qual st ["self"]) (len : ∀ vs H Q E, sp vs H Q E → vs.length = 1) (hb : Body P w K mg base k N qual st sp) : PF P w K mg base (k + 1) C m sp := by
  obtain ⟨p, g, fd, hp, F⟩ := D.ex
  exact ⟨p, g, fd, hp, F.okB S len hb, F.bindsN b⟩
theorem DC.cf (D : DC K C qual st) (S : FnScope N ps (defScope st)) (b : BindsB "__call__" qual st ps) (len : ∀ vs H Q E, sp vs H Q E → vs.length = ps.length) (hb : Body P w K mg base k N qual st sp) : CF P w K mg base (k + 1) C sp := by
  obtain ⟨g, fd, hc, F⟩ := D.ex
  exact ⟨g, fd, ps, hc, F.okB S len hb, F.bindsN b⟩
end
end Tc
/-! # The frame: what an expression does not know of, stays -/
namespace Tc
open PySem PySem.Spec PyProof.Rows L2
/-- the cells of F as they stood in H, all else as in H' -/
def glue (H : Hp) (F : List Addr) (H' : Hp) : Hp := fun b => if b ∈ F then H b else H' b
def Fbl (H : Hp) (b : Addr) : Prop := (∃ xs, H b = some (.lst xs)) ∨ ∃ kvs, H b = some (.dK kvs)
theorem glue_in {H H' : Hp} {F : List Addr} {b : Addr} (h : b ∈ F) : glue H F H' b = H b := if_pos h
theorem glue_out {H H' : Hp} {F : List Addr} {b : Addr} (h : b ∉ F) : glue H F H' b = H' b := if_neg h
theorem glue_same {H H' : Hp} {F : List Addr} (h : ∀ b ∈ F, H' b = none) : Same H' (glue H F H') := fun b u e => by
  rw [glue_out fun z => by rw [h b z] at e; cases e]
  exact e
theorem glue_msk {H H' : Hp} {F : List Addr} (h : ∀ b ∈ F, H' b = none) : Msk (glue H F H') F = H' := by
  funext b
  by_cases hb : b ∈ F
  · rw [msk_in hb, h b hb]
  · rw [msk_at hb, glue_out hb]
def tFrm (t : TE) : TE := fun σ H Q => ∃ F : List Addr, (∀ b ∈ F, Fbl H b) ∧ t σ (Msk H F) fun v H' => (∀ b ∈ F, H' b = none) → Q v (glue H F H')
section
variable {X : Cx} {e : Expr} {t : TE}
theorem fbl_obj {P : Program} {w : World} {H : Hp} {h : Heap} {b : Addr} (hk : HOk P w H h) (f : Fbl H b) : ∃ o, h.get? b = some o ∧ ∀ v, o.data ≠ .cell v := by
  rcases f with ⟨xs, e⟩ | ⟨kvs, e⟩
  · obtain ⟨_, its, n, _, e2⟩ := hk b _ e
    exact ⟨_, e2, fun v z => by cases z⟩
  · obtain ⟨_, _, vs, _, o, es, ep, e2, c⟩ := hk b _ e
    refine ⟨o, e2, fun v z => ?_⟩
    have h1 := c.2.1
    rw [z] at h1
    cases h1
theorem pins_ex {P : Program} {w : World} {H : Hp} {h : Heap} (hk : HOk P w H h) : ∀ {F : List Addr}, (∀ b ∈ F, Fbl H b) → ∃ ps : List (Addr × Obj), (∀ p ∈ ps, p.1 ∈ F ∧ h.get? p.1 = some p.2 ∧ ∀ v, p.2.data ≠ .cell v) ∧ ∀ b ∈ F, ∃ o, (b, o) ∈ ps
  | [], _ => ⟨[], fun p hp => (by cases hp), fun b hb => (by cases hb)⟩
  | a :: F, hF => by
    obtain ⟨ps, h1, h2⟩ := pins_ex hk (F := F) fun b hb => hF b (List.mem_cons_of_mem _ hb)
    obtain ⟨o, e1, e2⟩ := fbl_obj hk (hF a (List.mem_cons_self ..))
    refine ⟨(a, o) :: ps, fun p hp => ?_, fun b hb => ?_⟩
    · rcases List.mem_cons.mp hp with z | z
      · rw [z]
        exact ⟨List.mem_cons_self .., e1, e2⟩
      · obtain ⟨q1, q2⟩ := h1 p z
        exact ⟨List.mem_cons_of_mem _ q1, q2⟩
    · rcases List.mem_cons.mp hb with z | z
      · rw [z]
        exact ⟨o, List.mem_cons_self ..⟩
      · obtain ⟨o2, q⟩ := h2 b z
        exact ⟨o2, List.mem_cons_of_mem _ q⟩
theorem frm_core {pins : List (Addr × Obj)} {σ : L2.St} {H : Hp} {s : Shared} {Q : VK} {m : Sem Value} (F : List Addr) (hF : ∀ b ∈ F, Fbl H b) (I : Inv X pins σ H s)
    (run : ∀ ps : List (Addr × Obj), Inv X ps σ (Msk H F) s → wpAny (model X.prog X.w) X.A m (EP X ps σ fun v H' => (∀ b ∈ F, H' b = none) → Q v (glue H F H')) X.xe s) : wpAny (model X.prog X.w) X.A m (EP X pins σ Q) X.xe s := by
  obtain ⟨ps, p1, p2⟩ := pins_ex I.hok hF
  have live : ∀ b ∈ F, H b ≠ none := fun b hb z => by rcases hF b hb with ⟨_, e⟩ | ⟨_, e⟩ <;> rw [z] at e <;> cases e
  have nfs : ∀ b, H b ≠ none → b ∉ X.fs := fun b hb z => by
    obtain ⟨_, o, ho, _⟩ := I.ok.funs.mem z
    exact hb (I.base.free b o ho (I.ok.frf b z) fun y => I.ok.exfs b y z)
  have fre : ∀ b o, X.s_0.heap.get? b = some o → X.H_0 b = none → b ∉ X.ex → b ∉ F := fun b o q n hx z => live b z (I.base.free b o q n hx)
  have I2 : Inv X (ps ++ pins) σ (Msk H F) s := by
    refine ⟨I.ok, I.os, I.bare, ⟨I.base.keep, I.base.slot, fun b o q n hx => ?_, I.base.there, fun b xs q => ?_, fun b o u q => ?_, fun b ts q => ?_⟩, I.loc, I.cell, msk_none I.free, fun x c q => msk_none (I.freeC x c q), fun p hp => ?_, fun a o q => ?_, I.len⟩
    · exact msk_none (I.base.free b o q n hx)
    · have e := I.base.tups b xs q
      rw [msk_at fun z => by rcases hF b z with ⟨_, e2⟩ | ⟨_, e2⟩ <;> rw [e] at e2 <;> cases e2]
      exact e
    · have e := I.base.frzs b o u q
      rw [msk_at fun z => by rcases hF b z with ⟨_, e2⟩ | ⟨_, e2⟩ <;> rw [e] at e2 <;> cases e2]
      exact e
    · obtain ⟨more, e⟩ := I.base.tbls b ts q
      refine ⟨more, ?_⟩
      rw [msk_at fun z => by rcases hF b z with ⟨_, e2⟩ | ⟨_, e2⟩ <;> rw [e] at e2 <;> cases e2]
      exact e
    · rcases List.mem_append.mp hp with z | z
      · obtain ⟨q1, q2, q3, q4, q5⟩ := I.pin p (List.mem_append_left _ z)
        exact ⟨q1, msk_none q2, q3, q4, q5⟩
      · rcases List.mem_append.mp z with z | z
        · obtain ⟨q1, q2, q3⟩ := p1 p z
          exact ⟨q2, msk_in q1, fun y => live _ q1 (by rw [y]; exact I.free), nfs _ (live _ q1), q3⟩
        · obtain ⟨q1, q2, q3, q4, q5⟩ := I.pin p (List.mem_append_right _ z)
          exact ⟨q1, msk_none q2, q3, q4, q5⟩
    · have e := msk_same a o q
      have hns : ∀ b, H b = some (.own a) → b ∉ F := fun b hb z => by rcases hF b z with ⟨_, e2⟩ | ⟨_, e2⟩ <;> rw [hb] at e2 <;> cases e2
      refine (I.hok a o e).stay (fun _ _ _ z => z) (fun b hb => by rw [msk_at (hns b hb)]; exact hb) fun b xs hb => ?_
      rw [msk_at fun z => by rcases hF b z with ⟨_, e2⟩ | ⟨_, e2⟩ <;> rw [hb] at e2 <;> cases e2]
      exact hb
  refine thn (run (ps ++ pins) I2) fun u s1 ⟨v, H1, I1, r1, q1⟩ => ?_
  have hfr : ∀ b ∈ F, H1 b = none := fun b hb => by
    obtain ⟨o, ho⟩ := p2 b hb
    exact (I1.pin (b, o) (List.mem_append_right _ (List.mem_append_left _ ho))).2.1
  have hg := glue_same (H := H) hfr
  refine ⟨v, glue H F H1, ?_, r1, q1 hfr⟩
  refine ⟨I1.ok, I1.os, I1.bare, ⟨I1.base.keep, I1.base.slot, fun b o q n hx => ?_, I1.base.there, fun b xs q => ?_, fun b o u q => ?_, fun b ts q => ?_⟩, I1.loc, I1.cell, ?_, fun x c q => ?_, fun p hp => ?_, fun a o q => ?_, I1.len⟩
  · rw [glue_out (fre b o q n hx)]
    exact I1.base.free b o q n hx
  · by_cases hb : b ∈ F
    · rw [glue_in hb]
      exact I.base.tups b xs q
    · rw [glue_out hb]
      exact I1.base.tups b xs q
  · by_cases hb : b ∈ F
    · rw [glue_in hb]
      exact I.base.frzs b o u q
    · rw [glue_out hb]
      exact I1.base.frzs b o u q
  · by_cases hb : b ∈ F
    · rw [glue_in hb]
      exact I.base.tbls b ts q
    · rw [glue_out hb]
      exact I1.base.tbls b ts q
  · rw [glue_out fun z => live _ z I.free]
    exact I1.free
  · rw [glue_out fun z => live _ z (I.freeC x c q)]
    exact I1.freeC x c q
  · have hp0 := I.pin p hp
    obtain ⟨q1, q2, q3, q4, q5⟩ := I1.pin p (by
      rcases List.mem_append.mp hp with z | z
      · exact List.mem_append_left _ z
      · exact List.mem_append_right _ (List.mem_append_right _ z))
    refine ⟨q1, ?_, q3, q4, q5⟩
    rw [glue_out fun z => live _ z hp0.2.1]
    exact q2
  · by_cases ha : a ∈ F
    · rw [glue_in ha] at q
      obtain ⟨ob, ho⟩ := p2 a ha
      have e1 := (p1 _ ho).2.1
      have e2 := (I1.pin (a, ob) (List.mem_append_right _ (List.mem_append_left _ ho))).1
      have e1 : s.heap.get? a = some ob := e1
      have e2 : s1.heap.get? a = some ob := e2
      rcases hF a ha with ⟨xs, e⟩ | ⟨kvs, e⟩
      · rw [q] at e
        obtain rfl := Option.some.inj e
        obtain ⟨z, its, n, r, e3⟩ := I.hok a _ q
        refine ⟨z, its, n, r, ?_⟩
        rw [e1] at e3
        rw [e2]
        exact e3
      · rw [q] at e
        obtain rfl := Option.some.inj e
        obtain ⟨z, y, vs, r, ob2, es, ep, e3, c⟩ := I.hok a _ q
        refine ⟨z, y, vs, r, ob2, es, ep, ?_, c⟩
        rw [e1] at e3
        rw [e2]
        exact e3
    · rw [glue_out ha] at q
      exact (I1.hok a o q).stay (fun _ _ _ z => z) (fun b hb => hg _ _ hb) fun b xs hb => hg _ _ hb
theorem pe_frm (he : PE X e t) : PE X e (tFrm t) := by
  refine ⟨fun pins s σ H Q I h => ?_⟩
  obtain ⟨F, hF, h⟩ := h
  exact frm_core F hF I fun ps I2 => he.run ps s σ (Msk H F) _ I2 h
theorem sl_listN (K : PySem.W.Frag) (hK : X.K = K := by rfl) : SlR X (rSlL K) := hK ▸ sl_list
/-- o.m(e, ..): the call alone is framed, not what it is given -/
def tMethF (C : Addr) (sp : Sp) (m : Str) (dvs : List V) (ta : TE) (t : TA) : TE := fun σ H Q => ta σ H fun x H1 => ∃ a dx fs, x = .ref a ∧ H1 a = some (.ins C dx fs) ∧ fs.lookup m = none ∧
  t σ H1 fun vs H2 => ∃ F : List Addr, (∀ b ∈ F, Fbl H2 b) ∧ sp (x :: (vs ++ dvs)) (Msk H2 F) (fun v H' => (∀ b ∈ F, H' b = none) → Q v (glue H2 F H')) E0
theorem pe_mff {es : List Expr} {o e : Expr} {ta : TE} {t : TA} {pos apos : Pos} {m : Str} {C : Addr} {k j : Nat} {ps : List Str} {dvs : List V} {sp : Sp} {pl : Sem Bool} (G : MF X.prog X.w X.K X.mg X.base k C m ps dvs sp) (c : Cls X.K C) (hr : Room j X.A) (he : PE X o ta) (ha : PA X (e :: es) t) (hk : k ≤ j := by decide)
    (hst : starEach (e :: es) X.env = (false, eval e X.env) :: starEach es X.env := by rfl) (hpl : (backTo pos (starEach es X.env)).any (·.1) = false := by rfl)
    (ht : eval (.Call (.Attribute o m apos) (e :: es) [] pos) X.env = (do
      let ov ← eval o X.env
      standAt apos.atName
      let (f, first) ← holding [ov] (getMethod ov m pl)
      callWith pos f first (backTo pos (starEach (e :: es) X.env)) (backToKw pos (keywordEach [] X.env))) := by rfl) :
    PE X (.Call (.Attribute o m apos) (e :: es) [] pos) (tMethF C sp m dvs ta t) := by
  obtain ⟨f, fd, ds, Fn, hm, hb, hv⟩ := G.ex
  refine ⟨fun pins s σ H Q I h => ?_⟩
  refine PySem.W.methodCall_KW (pl := pl) (thn (he.run pins s σ H _ I h) fun u s1 ⟨x, H1, I1, rx, a, dx, fs, ex, ea, l, q⟩ => ?_) ht
  subst ex
  obtain rfl : u = Value.ref a := rx
  refine getmeth_ok I1 ea c hm l ?_
  refine PySem.W.callWith_K (first := [.ref a]) (h₀ := X.base) I.ok.mod.kin hm.kp (thn (ha.run pos pins s1 σ H1 _ I1 q) fun us s2 ⟨vs, H2, I2, r, F, hF, q2⟩ => ⟨I2.kIn, ?_⟩) hst hpl
  exact frm_core F hF I2 fun ps I3 => run_fn (us := .ref a :: us) (vs := .ref a :: vs) Fn (hr.mono hk) hb hv pass0 I3 (.cons rfl r) q2
end
end Tc
/-! # The walks: validation and texts -/
namespace Tc
open PySem PySem.Spec PyProof.Rows L2
theorem kit_list {K : PySem.W.Frag} : PySem.W.kitAny K (.type "list") [.type "list", .type "tuple"] = some true := by
  refine kitAny_cons (b := true) (kit_ty (by decide +kernel)) (fun h => by cases h) (fun _ => rfl)
/-- a kind -/
inductive Kd where
  | bytes | units | chars
def Kd.s : Kd → Str
  | .bytes => "bytes"
  | .units => "units"
  | .chars => "chars"
/-- the count of a character in a kind -/
def wd : Kd → Int → Nat
  | .chars, _ => 1
  | .units, x => 1 + (if 65536 ≤ x then 1 else 0)
  | .bytes, x => 1 + (if 128 ≤ x then 1 else 0) + (if 2048 ≤ x then 1 else 0) + (if 65536 ≤ x then 1 else 0)
/-- the names that the law gives -/
def NmOk (x : Str) : Prop := x = "a" ∨ x = "bb" ∨ x = "ccc" ∨ x = "dddd"
theorem nm_size {x : Str} (h : NmOk x) : x.length ≤ sizeLine := by
  rcases h with rfl | rfl | rfl | rfl <;> decide +kernel
theorem nm_pos {x : Str} (h : NmOk x) : (0 : Int) < (x.length : Int) := by
  rcases h with rfl | rfl | rfl | rfl <;> decide +kernel
theorem nm_le {x : Str} (h : NmOk x) : (x.length : Int) ≤ 8 := by
  rcases h with rfl | rfl | rfl | rfl <;> decide +kernel
theorem nm_strip {x : Str} (h : NmOk x) : Txt.stripChars x "abcdefghijklmnopqrstuvwxyz" = "" := by
  rcases h with rfl | rfl | rfl | rfl <;> decide +kernel
theorem map_at_int {t : List Int} {i : Nat} {x : V} (h : (t.map V.int)[i]? = some x) : ∃ y, t[i]? = some y ∧ x = .int y := by
  rw [List.getElem?_map] at h
  cases e : t[i]? with
  | none => rw [e] at h; cases h
  | some y => rw [e] at h; exact ⟨y, rfl, (Option.some.inj h).symm⟩
theorem kit_same {K : PySem.W.Frag} {t : Value} : PySem.W.kitOne K t t = some true := by
  unfold PySem.W.kitOne
  rw [if_pos (beq_self_eq_true _)]
section
variable {P : Program} {w : World} {K : PySem.W.Frag} {mg : Str → Option Value} {base : Heap} {c : Cs}
/-! ### is_integer -/
/- is_integer: 0 value, 1 low, 2 high -/
theorem sc_is_integer : FnScope ["value", "low", "high"] ["value", "low", "high"] (defScope s_is_integer) := ⟨rfl, rfl, rfl, by decide +kernel, rfl, by decide +kernel, by decide +kernel⟩
theorem bi_is_integer : BindsB "is_integer" "is_integer" s_is_integer ["value", "low", "high"] := fun _ _ _ _ _ _ us hl => match us, hl with | [_, _, _], _ => rfl
def spIsInteger : Sp := fun vs H Q _ => ∃ i lo hi : Int, vs = [.int i, .int lo, .int hi] ∧ Q (.bl (decide (lo ≤ i ∧ i ≤ hi))) H
theorem ok_is_integer (T : Txt K mg c) : GF P w K mg base 1 "is_integer" ["value", "low", "high"] spIsInteger := by
  refine T.d_is_integer.gf sc_is_integer bi_is_integer (fun vs H Q E h => ?_) (fun f cdv A outer s H vs Q E hr h => ?_)
  · obtain ⟨i, lo, hi, rfl, _⟩ := h
    rfl
  · obtain ⟨i, lo, hi, rfl, q⟩ := h
    refine ⟨_, (pss_one (ps_ret (pe_and (pe_callB call_isi (by rfl) T.z_isinstance (by decide +kernel) (pa_cons (pv 0) (pa_cons (pe_bltn (by rfl) T.z_int (by decide +kernel) (show RelV (.ty "int") _ from rfl)) pa_nil))) (pe_and (pe_not (pe_callB call_isi (by rfl) T.z_isinstance (by decide +kernel) (pa_cons (pv 0) (pa_cons (pe_bltn (by rfl) T.z_bool (by decide +kernel) (show RelV (.ty "bool") _ from rfl)) pa_nil)))) (pe_one (pe_chain op_le op_le (pv 1) (pv 0) (pv 2))))))), ?_⟩
    refine ⟨_, rfl, _, _, _, _, true, rfl, .ty _, .base (.int _), kit_ty (by decide +kernel), true, rfl, iteT ?_⟩
    refine ⟨_, rfl, _, _, _, _, false, rfl, .ty _, .base (.int _), kit_ty (by decide +kernel), false, rfl, true, rfl, iteT ?_⟩
    refine ⟨_, rfl, _, rfl, _, _, rfl, rfl, _, rfl, ite2 (fun h1 => ?_) (fun h1 => ?_)⟩
    · refine ⟨_, rfl, _, _, rfl, rfl, ?_⟩
      have h1 : lo ≤ i := of_decide_eq_true h1
      by_cases h2 : i ≤ hi
      · rw [decide_eq_true (show lo ≤ i ∧ i ≤ hi from ⟨h1, h2⟩)] at q
        show Q (.bl (decide (i ≤ hi))) H
        rw [decide_eq_true h2]
        exact q
      · rw [decide_eq_false (show ¬ (lo ≤ i ∧ i ≤ hi) from fun z => h2 z.2)] at q
        show Q (.bl (decide (i ≤ hi))) H
        rw [decide_eq_false h2]
        exact q
    · have h1 : ¬ lo ≤ i := fun z => h1 (decide_eq_true z)
      rw [decide_eq_false (show ¬ (lo ≤ i ∧ i ≤ hi) from fun z => h1 z.1)] at q
      exact q
/-! ### is_char -/
/- is_char: 0 value -/
theorem sc_is_char : FnScope ["value"] ["value"] (defScope s_is_char) := ⟨rfl, rfl, rfl, by decide +kernel, rfl, by decide +kernel, by decide +kernel⟩
theorem bi_is_char : BindsB "is_char" "is_char" s_is_char ["value"] := fun _ _ _ _ _ _ us hl => match us, hl with | [_], _ => rfl
def spIsChar : Sp := fun vs H Q _ => ∃ i : Int, vs = [.int i] ∧ ChOk i ∧ Q (.bl true) H
theorem ok_is_char (T : Txt K mg c) (G_is_integer : GF P w K mg base 1 "is_integer" ["value", "low", "high"] spIsInteger) : GF P w K mg base 2 "is_char" ["value"] spIsChar := by
  refine T.d_is_char.gf sc_is_char bi_is_char (fun vs H Q E h => ?_) (fun f cdv A outer s H vs Q E hr h => ?_)
  · obtain ⟨i, rfl, _⟩ := h
    rfl
  · obtain ⟨i, rfl, ⟨h0, h1, h2⟩, q⟩ := h
    refine ⟨_, (pss_one (ps_ret (pe_and (pe_gf G_is_integer hr (pa_cons (pv 0) (pa_cons pe_int (pa_cons (pe_globE T.i_LAST_CHAR) pa_nil)))) (pe_one (pe_not (pe_chain op_le op_le (pe_globE T.i_LOW_GAP) (pv 0) (pe_globE T.i_HIGH_GAP))))))), ?_⟩
    refine ⟨_, rfl, _, _, _, rfl, _, rfl, ?_⟩
    rw [decide_eq_true (show (0 : Int) ≤ i ∧ i ≤ 1114111 from ⟨h0, h1⟩)]
    refine iteT ⟨_, rfl, _, _, rfl, rfl, _, rfl, ite2 (fun h3 => ?_) (fun h3 => ?_)⟩
    · have h3 : 55296 ≤ i := of_decide_eq_true h3
      refine ⟨_, _, rfl, rfl, _, rfl, ?_⟩
      rw [decide_eq_false (show ¬ i ≤ 57343 from fun z => h2 ⟨h3, z⟩)]
      exact q
    · exact ⟨_, rfl, q⟩
/-! ### is_list -/
/- is_list: 0 value -/
theorem sc_is_list : FnScope ["value"] ["value"] (defScope s_is_list) := ⟨rfl, rfl, rfl, by decide +kernel, rfl, by decide +kernel, by decide +kernel⟩
theorem bi_is_list : BindsB "is_list" "is_list" s_is_list ["value"] := fun _ _ _ _ _ _ us hl => match us, hl with | [_], _ => rfl
def spIsList : Sp := fun vs H Q _ => ∃ (a : Addr) (xs : List V), vs = [.ref a] ∧ H a = some (.lst xs) ∧ ∀ H', Same H H' → Q (.bl true) H'
theorem ok_is_list (T : Txt K mg c) : GF P w K mg base 1 "is_list" ["value"] spIsList := by
  refine T.d_is_list.gf sc_is_list bi_is_list (fun vs H Q E h => ?_) (fun f cdv A outer s H vs Q E hr h => ?_)
  · obtain ⟨a, xs, rfl, _⟩ := h
    rfl
  · obtain ⟨a, xs, rfl, ha, q⟩ := h
    refine ⟨_, (pss_one (ps_ret (pe_callB call_isiT (by rfl) T.z_isinstance (by decide +kernel) (pa_cons (pv 0) (pa_cons (pe_tup (pa_cons (pe_bltn (by rfl) T.z_list (by decide +kernel) (show RelV (.ty "list") _ from rfl)) (pa_cons (pe_bltn (by rfl) T.z_tuple (by decide +kernel) (show RelV (.ty "tuple") _ from rfl)) pa_nil))) pa_nil))))), ?_⟩
    refine ⟨_, rfl, by show 2 ≤ sizeLine; decide, fun p hp => ?_⟩
    exact ⟨_, p, _, _, [.type "list", .type "tuple"], true, rfl, upd_same, .cons (.ty _) (.cons (.ty _) .nil), .base (.lst (same_upd hp _ _ ha)), kit_list, q _ (same_upd hp)⟩
/-! ### is_kind -/
/- is_kind: 0 value -/
theorem sc_is_kind : FnScope ["value"] ["value"] (defScope s_is_kind) := ⟨rfl, rfl, rfl, by decide +kernel, rfl, by decide +kernel, by decide +kernel⟩
theorem bi_is_kind : BindsB "is_kind" "is_kind" s_is_kind ["value"] := fun _ _ _ _ _ _ us hl => match us, hl with | [_], _ => rfl
def spIsKind : Sp := fun vs H Q _ => ∃ k : Kd, vs = [.str k.s] ∧ Q (.bl true) H
theorem ok_is_kind (T : Txt K mg c) : GF P w K mg base 1 "is_kind" ["value"] spIsKind := by
  refine T.d_is_kind.gf sc_is_kind bi_is_kind (fun vs H Q E h => ?_) (fun f cdv A outer s H vs Q E hr h => ?_)
  · obtain ⟨k, rfl, _⟩ := h
    rfl
  · obtain ⟨k, rfl, q⟩ := h
    refine ⟨_, (pss_one (ps_ret (pe_and (pe_callB call_isi (by rfl) T.z_isinstance (by decide +kernel) (pa_cons (pv 0) (pa_cons (pe_bltn (by rfl) T.z_str (by decide +kernel) (show RelV (.ty "str") _ from rfl)) pa_nil))) (pe_one (pe_cmpR op_in_seq (pv 0) (pe_globE T.g_kn) (by rfl)))))), ?_⟩
    refine ⟨_, rfl, _, _, _, _, true, rfl, .ty _, .base (.str _), kit_ty (by decide +kernel), true, rfl, iteT ?_⟩
    refine ⟨_, rfl, c.kn, _, rfl, .inr (T.t_kn H), rfl, rfl, ?_⟩
    rw [show (if false then !inV (V.str k.s) [.str "bytes", .str "units", .str "chars"] else inV (V.str k.s) [.str "bytes", .str "units", .str "chars"]) = true by cases k <;> decide +kernel]
    exact q
/-! ### is_name -/
/- is_name: 0 value -/
theorem sc_is_name : FnScope ["value"] ["value"] (defScope s_is_name) := ⟨rfl, rfl, rfl, by decide +kernel, rfl, by decide +kernel, by decide +kernel⟩
theorem bi_is_name : BindsB "is_name" "is_name" s_is_name ["value"] := fun _ _ _ _ _ _ us hl => match us, hl with | [_], _ => rfl
def spIsName : Sp := fun vs H Q _ => ∃ x : Str, vs = [.str x] ∧ NmOk x ∧ Q (.bl true) H
theorem ok_is_name (T : Txt K mg c) : GF P w K mg base 1 "is_name" ["value"] spIsName := by
  refine T.d_is_name.gf sc_is_name bi_is_name (fun vs H Q E h => ?_) (fun f cdv A outer s H vs Q E hr h => ?_)
  · obtain ⟨x, rfl, _⟩ := h
    rfl
  · obtain ⟨x, rfl, hx, q⟩ := h
    refine ⟨_, (pss_one (ps_ret (pe_and (pe_callB call_isi (by rfl) T.z_isinstance (by decide +kernel) (pa_cons (pv 0) (pa_cons (pe_bltn (by rfl) T.z_str (by decide +kernel) (show RelV (.ty "str") _ from rfl)) pa_nil))) (pe_and (pe_chain op_lt op_le pe_int (pe_callB call_len_str (by rfl) T.z_len (by decide +kernel) (pa_cons (pv 0) pa_nil)) (pe_globE T.i_LONGEST_NAME)) (pe_one (pe_cmpR op_eq (pe_bm PySem.F.plainAttrs_str PySem.F.slot_str_strip PySem.F.type_str_strip mt_stripChars (pv 0) (pa_cons (pe_globE T.s_LETTERS) pa_nil)) pe_str (nomark _))))))), ?_⟩
    refine ⟨_, rfl, _, _, _, _, true, rfl, .ty _, .base (.str _), kit_ty (by decide +kernel), true, rfl, iteT ?_⟩
    refine ⟨_, rfl, _, rfl, nm_size hx, _, _, rfl, rfl, _, rfl, ?_⟩
    rw [decide_eq_true (nm_pos hx)]
    refine iteT ⟨_, _, rfl, rfl, true, ?_, iteT ?_⟩
    · show V.bl (decide ((x.length : Int) ≤ 8)) = _
      rw [decide_eq_true (nm_le hx)]
    refine ⟨_, rfl, rfl, _, _, rfl, rfl, nm_size hx, rfl, ?_⟩
    rw [nm_strip hx]
    exact q
/-! ### need_char, need_kind, need_chars, need_text -/
/- need_char: 0 value -/
theorem sc_need_char : FnScope ["value"] ["value"] (defScope s_need_char) := ⟨rfl, rfl, rfl, by decide +kernel, rfl, by decide +kernel, by decide +kernel⟩
theorem bi_need_char : BindsB "need_char" "need_char" s_need_char ["value"] := fun _ _ _ _ _ _ us hl => match us, hl with | [_], _ => rfl
def spNeedChar : Sp := fun vs H Q _ => ∃ i : Int, vs = [.int i] ∧ ChOk i ∧ Q .non H
theorem ok_need_char (T : Txt K mg c) (G_is_char : GF P w K mg base 2 "is_char" ["value"] spIsChar) : GF P w K mg base 3 "need_char" ["value"] spNeedChar := by
  refine T.d_need_char.gf sc_need_char bi_need_char (fun vs H Q E h => ?_) (fun f cdv A outer s H vs Q E hr h => ?_)
  · obtain ⟨i, rfl, _⟩ := h
    rfl
  · obtain ⟨i, rfl, hc, q⟩ := h
    refine ⟨_, (pss_one (ps_if (pt_not (pt_val (pe_gf G_is_char hr (pa_cons (pv 0) pa_nil)))) (pss_one ps_never) pss_nil)), ?_⟩
    exact ⟨_, rfl, _, rfl, hc, true, rfl, iteF q⟩
/- need_kind: 0 value -/
theorem sc_need_kind : FnScope ["value"] ["value"] (defScope s_need_kind) := ⟨rfl, rfl, rfl, by decide +kernel, rfl, by decide +kernel, by decide +kernel⟩
theorem bi_need_kind : BindsB "need_kind" "need_kind" s_need_kind ["value"] := fun _ _ _ _ _ _ us hl => match us, hl with | [_], _ => rfl
def spNeedKind : Sp := fun vs H Q _ => ∃ k : Kd, vs = [.str k.s] ∧ Q .non H
theorem ok_need_kind (T : Txt K mg c) (G_is_kind : GF P w K mg base 1 "is_kind" ["value"] spIsKind) : GF P w K mg base 2 "need_kind" ["value"] spNeedKind := by
  refine T.d_need_kind.gf sc_need_kind bi_need_kind (fun vs H Q E h => ?_) (fun f cdv A outer s H vs Q E hr h => ?_)
  · obtain ⟨i, rfl, _⟩ := h
    rfl
  · obtain ⟨i, rfl, q⟩ := h
    refine ⟨_, (pss_one (ps_if (pt_not (pt_val (pe_gf G_is_kind hr (pa_cons (pv 0) pa_nil)))) (pss_one ps_never) pss_nil)), ?_⟩
    exact ⟨_, rfl, _, rfl, true, rfl, iteF q⟩
/- need_chars: 0 value, 1 item -/
theorem sc_need_chars : FnScope ["value", "item"] ["value"] (defScope s_need_chars) := ⟨rfl, rfl, rfl, by decide +kernel, rfl, by decide +kernel, by decide +kernel⟩
theorem bi_need_chars : BindsB "need_chars" "need_chars" s_need_chars ["value"] := fun _ _ _ _ _ _ us hl => match us, hl with | [_], _ => rfl
def spNeedChars : Sp := fun vs H Q _ => ∃ (a : Addr) (t : List Int), vs = [.ref a] ∧ LAt H a t ∧ (∀ x ∈ t, ChOk x) ∧ ∀ H', Same H H' → Q .non H'
theorem ok_need_chars (T : Txt K mg c) (G_is_list : GF P w K mg base 1 "is_list" ["value"] spIsList) (G_need_char : GF P w K mg base 3 "need_char" ["value"] spNeedChar) : GF P w K mg base 4 "need_chars" ["value"] spNeedChars := by
  refine T.d_need_chars.gf sc_need_chars bi_need_chars (fun vs H Q E h => ?_) (fun f cdv A outer s H vs Q E hr h => ?_)
  · obtain ⟨a, t, rfl, _⟩ := h
    rfl
  · obtain ⟨a, t, rfl, ha, hc, q⟩ := h
    refine ⟨_, (pss_cons (ps_if (pt_not (pt_val (pe_gf G_is_list hr (pa_cons (pv 0) pa_nil)))) (pss_one ps_never) pss_nil)
      (pss_one (ps_for PassesOwn.never rfl (pi_listN K (pv 0)) (pg_name (i := 1) sc_need_chars.nd rfl (Or.inl rfl))
      (pss_one (ps_expr (pe_gf G_need_char hr (pa_cons (pv 1) pa_nil))))))), ?_⟩
    refine ⟨_, rfl, a, _, rfl, ha, fun H1 s1 => ⟨true, rfl, iteF ?_⟩⟩
    refine ⟨_, rfl, a, rfl, ⟨_, SqL.of (s1 _ _ ha)⟩, for_list (K := K) (a := a) (xs := t.map V.int) (fun i σ H2 => ∃ v, σ = [some (.ref a), v] ∧ H2 = H1) ⟨none, rfl, rfl⟩ (fun i σ H2 _ ⟨_, _, e⟩ => by rw [e]; exact SqL.of (s1 _ _ ha)) ?_ ?_⟩
    · rintro i x σ H2 hx ⟨v, rfl, rfl⟩
      obtain ⟨y, hy, rfl⟩ := map_at_int hx
      exact ⟨_, rfl, y, rfl, hc y (List.mem_of_getElem? hy), _, rfl, rfl⟩
    · rintro σ H2 ⟨v, rfl, rfl⟩
      exact q _ s1
/- need_text: 0 value -/
theorem sc_need_text : FnScope ["value"] ["value"] (defScope s_need_text) := ⟨rfl, rfl, rfl, by decide +kernel, rfl, by decide +kernel, by decide +kernel⟩
theorem bi_need_text : BindsB "need_text" "need_text" s_need_text ["value"] := fun _ _ _ _ _ _ us hl => match us, hl with | [_], _ => rfl
def spNeedText (c : Cs) : Sp := fun vs H Q _ => ∃ (a : Addr) (t : List Int), vs = [.ref a] ∧ TextAt c H a t ∧ Q .non H
theorem ok_need_text (T : Txt K mg c) : GF P w K mg base 1 "need_text" ["value"] (spNeedText c) := by
  refine T.d_need_text.gf sc_need_text bi_need_text (fun vs H Q E h => ?_) (fun f cdv A outer s H vs Q E hr h => ?_)
  · obtain ⟨a, t, rfl, _⟩ := h
    rfl
  · obtain ⟨a, t, rfl, ⟨dx, l, v, ha, hl⟩, q⟩ := h
    refine ⟨_, (pss_one (ps_if (pt_not (pt_val (pe_callB call_isi (by rfl) T.z_isinstance (by decide +kernel) (pa_cons (pv 0) (pa_cons (pe_globE T.g_tx) pa_nil))))) (pss_one ps_never) pss_nil)), ?_⟩
    exact ⟨_, rfl, _, _, _, _, true, rfl, .own _, .base (.ins ha T.cl_tx T.k_tx.ha T.k_tx.hn T.k_tx.ht T.k_tx.hm), kit_same, true, rfl, iteF q⟩
/-! ### wide -/
/- wide: 0 char, 1 kind -/
theorem sc_wide : FnScope ["char", "kind"] ["char", "kind"] (defScope s_wide) := ⟨rfl, rfl, rfl, by decide +kernel, rfl, by decide +kernel, by decide +kernel⟩
theorem bi_wide : BindsB "wide" "wide" s_wide ["char", "kind"] := fun _ _ _ _ _ _ us hl => match us, hl with | [_, _], _ => rfl
def spWide : Sp := fun vs H Q _ => ∃ (x : Int) (k : Kd), vs = [.int x, .str k.s] ∧ Q (.int (wd k x)) H
theorem ok_wide (T : Txt K mg c) : GF P w K mg base 1 "wide" ["char", "kind"] spWide := by
  refine T.d_wide.gf sc_wide bi_wide (fun vs H Q E h => ?_) (fun f cdv A outer s H vs Q E hr h => ?_)
  · obtain ⟨x, k, rfl, _⟩ := h
    rfl
  · obtain ⟨x, k, rfl, q⟩ := h
    refine ⟨_, (pss_cons (ps_if (pt_cmpR op_eq (pv 1) (pe_globE T.s_CHARS_texts) (nomark _)) (pss_one (ps_ret pe_int)) pss_nil)
      (pss_cons (ps_if (pt_cmpR op_eq (pv 1) (pe_globE T.s_UNITS_texts) (nomark _)) (pss_one (ps_ret (pe_op op_add pe_int (pe_callTy call_int1 (by rfl) T.z_int (by decide +kernel) (pa_cons (pe_cmpR op_ge (pv 0) (pe_globE T.i_FOUR) (nomark _)) pa_nil))))) pss_nil)
      (pss_one (ps_ret (pe_op op_add (pe_op op_add (pe_op op_add pe_int (pe_callTy call_int1 (by rfl) T.z_int (by decide +kernel) (pa_cons (pe_cmpR op_ge (pv 0) (pe_globE T.i_TWO) (nomark _)) pa_nil))) (pe_callTy call_int1 (by rfl) T.z_int (by decide +kernel) (pa_cons (pe_cmpR op_ge (pv 0) (pe_globE T.i_THREE) (nomark _)) pa_nil))) (pe_callTy call_int1 (by rfl) T.z_int (by decide +kernel) (pa_cons (pe_cmpR op_ge (pv 0) (pe_globE T.i_FOUR) (nomark _)) pa_nil))))))), ?_⟩
    have b2i : ∀ (p : Prop) [Decidable p], (if decide p then (1 : Int) else 0) = ((if p then 1 else 0 : Nat) : Int) := fun p _ => by
      by_cases h : p
      · rw [if_pos h, decide_eq_true h]; rfl
      · rw [if_neg h, decide_eq_false h]; rfl
    cases k with
    | chars =>
      refine ⟨_, rfl, rfl, _, rfl, ?_⟩
      rw [decide_eq_true (show V.str (Kd.s .chars) = V.str "chars" from rfl)]
      exact iteT q
    | units =>
      refine ⟨_, rfl, rfl, _, rfl, ?_⟩
      rw [show decide (V.str (Kd.s .units) = V.str "chars") = false by decide +kernel]
      refine iteF ⟨_, rfl, rfl, _, rfl, ?_⟩
      rw [decide_eq_true (show V.str (Kd.s .units) = V.str "units" from rfl)]
      refine iteT ⟨_, rfl, _, _, rfl, rfl, .inr ⟨_, rfl, _, _, rfl, rfl, ?_⟩⟩
      show Q (.int (1 + (if decide ((65536 : Int) ≤ x) then (1 : Int) else 0))) H
      rw [b2i]
      exact q
    | bytes =>
      refine ⟨_, rfl, rfl, _, rfl, ?_⟩
      rw [show decide (V.str (Kd.s .bytes) = V.str "chars") = false by decide +kernel]
      refine iteF ⟨_, rfl, rfl, _, rfl, ?_⟩
      rw [show decide (V.str (Kd.s .bytes) = V.str "units") = false by decide +kernel]
      refine iteF ⟨_, rfl, _, _, rfl, rfl, .inr ⟨_, rfl, _, _, rfl, rfl, ?_⟩⟩
      refine ⟨_, rfl, _, _, rfl, rfl, .inr ⟨_, rfl, _, _, rfl, rfl, ?_⟩⟩
      refine ⟨_, rfl, _, _, rfl, rfl, .inr ⟨_, rfl, _, _, rfl, rfl, ?_⟩⟩
      show Q (.int (((1 + (if decide ((128 : Int) ≤ x) then (1 : Int) else 0)) + (if decide ((2048 : Int) ≤ x) then (1 : Int) else 0)) + (if decide ((65536 : Int) ≤ x) then (1 : Int) else 0))) H
      rw [b2i, b2i, b2i]
      exact q
end
end Tc
/-! # The walks: Text -/
namespace Tc
open PySem PySem.Spec PyProof.Rows L2
theorem sz (n : Nat) (h : n ≤ 16000000) : n ≤ sizeLine := Nat.le_trans h (by decide)
theorem szlt (n : Nat) (h : n < 16000000) : n < sizeLine := Nat.lt_of_lt_of_le h (by decide)
theorem kd_of {i : Nat} {x : V} (h : ([.str "bytes", .str "units", .str "chars"] : List V)[i]? = some x) : i < 3 ∧ ∃ k : Kd, x = .str k.s := by
  match i, h with
  | 0, h => exact ⟨by omega, .bytes, (Option.some.inj h).symm⟩
  | 1, h => exact ⟨by omega, .units, (Option.some.inj h).symm⟩
  | 2, h => exact ⟨by omega, .chars, (Option.some.inj h).symm⟩
  | i + 3, h => simp at h
section
variable {P : Program} {w : World} {K : PySem.W.Frag} {mg : Str → Option Value} {base : Heap} {c : Cs}
/- counts_in: 0 chars (cell), 1 kind, 2 char -/
theorem sc_counts_in : FnScope ["chars", "kind", "char"] ["chars"] (defScope s_counts_in) := ⟨rfl, rfl, rfl, by decide +kernel, rfl, by decide +kernel, by decide +kernel⟩
theorem bi_counts_in : BindsB "counts_in" "counts_in" s_counts_in ["chars"] := fun _ _ _ _ _ _ us hl => match us, hl with | [_], _ => rfl
def spCounts : Sp := fun vs H Q _ => ∃ (a : Addr) (t : List Int), vs = [.ref a] ∧ LAt H a t ∧ t.length ≤ 100000 ∧ ∀ H' p, Same H H' → Q (.ref p) H'
theorem ok_counts_in (T : Txt K mg c) (G_wide : GF P w K mg base 1 "wide" ["char", "kind"] spWide) : GF P w K mg base 2 "counts_in" ["chars"] spCounts := by
  refine T.d_counts_in.gf sc_counts_in bi_counts_in (fun vs H Q E h => ?_) (fun f cdv A outer s H vs Q E hr h => ?_)
  · obtain ⟨a, t, rfl, _⟩ := h
    rfl
  · obtain ⟨a, t, rfl, ha, hn, q⟩ := h
    refine ⟨_, (pss_one (ps_ret (pe_callTy call_tuple_of (by rfl) T.z_tuple (by decide +kernel) (pa_cons (pe_lc (own := [("kind", 1)]) (g := gName 1) rfl sc_counts_in.nd (pi_tup (pe_tup (pa_cons (pe_globE T.s_BYTES_texts) (pa_cons (pe_globE T.s_UNITS_texts) (pa_cons (pe_globE T.s_CHARS_texts) pa_nil))))) (blkOk_by (own := [("kind", 1)]) (N := ["chars", "kind", "char"]) (sc := defScope s_counts_in) (by decide +kernel)) (fun _ _ _ _ _ => pg_name (i := 1) sc_counts_in.nd rfl (by first | exact Or.inl rfl | exact Or.inr rfl)) (fun _ _ _ _ _ => pts_nil) (fun _ _ _ _ _ => (pe_callB (cr_sumN K) (by rfl) T.z_sum (by decide +kernel) (pa_cons (pe_lc (own := [("char", 2)]) (g := gName 2) rfl sc_counts_in.nd (pi_listN K (pv 0)) (blkOk_by (own := [("char", 2)]) (N := ["chars", "kind", "char"]) (sc := relS ({ kind := PySem.ScopeKind.function, names := [ (PySem.Str.ofString ".0", PySem.NameKind.local), (PySem.Str.ofString "kind", PySem.NameKind.cell), (PySem.Str.ofString "sum", PySem.NameKind.globalImplicit), (PySem.Str.ofString "chars", PySem.NameKind.free)], isGenerator := false, isCoroutine := false, more := [] : PySem.Scope }) (defScope s_counts_in)) (by decide +kernel)) (fun _ _ _ _ _ => pg_name (i := 2) sc_counts_in.nd rfl (by first | exact Or.inl rfl | exact Or.inr rfl)) (fun _ _ _ _ _ => pts_nil) (fun _ _ _ _ _ => (pe_gf G_wide hr (pa_cons (pv 2) (pa_cons (pv 1) pa_nil))))) pa_nil)))) pa_nil)))), ?_⟩
    refine ⟨by show 3 ≤ sizeLine; decide, fun p hp => ⟨p, rfl, ⟨_, SqT.of upd_same⟩, fun D hD => ?_⟩⟩
    have sp : Same H (upd H p (.tup [.str "bytes", .str "units", .str "chars"])) := same_upd hp
    have hDH : H D = none := sp.free hD
    refine lc_tup (K := K) (a := p) (xs := [.str "bytes", .str "units", .str "chars"]) (fun i H2 => Same (upd H p (.tup [.str "bytes", .str "units", .str "chars"])) H2 ∧ ∃ ns : List Int, H2 D = some (.lst (ns.map V.int)) ∧ ns.length = i)
      ⟨same_upd hD, [], upd_same, rfl⟩ (fun i H2 _ ⟨s2, _⟩ => SqT.of (s2 _ _ upd_same)) ?_ ?_
    · rintro i x H2 hx ⟨s2, ns, hDn, hl⟩
      obtain ⟨hi, k, rfl⟩ := kd_of hx
      have ha2 := s2 _ _ (sp _ _ ha)
      refine ⟨rfl, yesT ?_⟩
      refine ⟨_, rfl, a, rfl, ⟨_, SqL.of ha2⟩, fun D2 hD2 => ?_⟩
      have nD : D ≠ D2 := ne_of_none hDn hD2
      refine lc_list (K := K) (a := a) (xs := t.map V.int) (fun j H3 => Same H2 H3 ∧ ∃ ms : List Int, H3 D2 = some (.lst (ms.map V.int)) ∧ ms.length = j) ⟨same_upd hD2, [], upd_same, rfl⟩ (fun j H3 _ ⟨s3, _⟩ => SqL.of (s3 _ _ ha2)) ?_ ?_
      · rintro j y H3 hy ⟨s3, ms, hms, hml⟩
        obtain ⟨z, hz, rfl⟩ := map_at_int hy
        refine ⟨rfl, yesT ?_⟩
        refine ⟨_, rfl, _, rfl, z, k, rfl, _, hms, ?_, same_mut s3 hD2, ms ++ [(wd k z : Int)], ?_, ?_⟩
        · rw [List.length_map, hml]
          have := (List.getElem?_eq_some_iff.mp hz).1
          exact szlt _ (by omega)
        · rw [upd_same, List.map_append]
          rfl
        · rw [List.length_append, hml]
          rfl
      · rintro H3 ⟨s3, ms, hms, hml⟩
        refine ⟨D2, ms, rfl, SqL.of hms, _, s3 _ _ hDn, ?_, ?_, ns ++ [ms.sum], ?_, ?_⟩
        · rw [List.length_map, hl]
          exact szlt _ (by omega)
        · exact same_mut (s2.trans s3) hD
        · rw [upd_same, List.map_append]
          rfl
        · rw [List.length_append, hl]
          rfl
    · rintro H2 ⟨s2, ns, hDn, hl⟩
      refine ⟨D, _, rfl, .inl ⟨SqL.of hDn, fun l hl => q _ _ ((sp.trans s2).trans (same_upd hl))⟩⟩
/-! ### Text -/
/- Text.__init__: 0 self, 1 chars -/
theorem sc_Text_init : FnScope ["self", "chars"] ["self", "chars"] (defScope s_Text_init) := ⟨rfl, rfl, rfl, by decide +kernel, rfl, by decide +kernel, by decide +kernel⟩
theorem bi_Text_init : BindsB "__init__" "Text.__init__" s_Text_init ["self", "chars"] := fun _ _ _ _ _ _ us hl => match us, hl with | [_, _], _ => rfl
def spTextInit (c : Cs) : Sp := fun vs H Q _ => ∃ (x dx a : Addr) (t : List Int), vs = [.ref x, .ref a] ∧ H x = some (.ins c.tx dx []) ∧ LAt H a t ∧ (∀ y ∈ t, ChOk y) ∧ t.length ≤ 100000 ∧
  ∀ H' l v, (∀ b o, H b = some o → b ≠ x → H' b = some o) → H l = none → H' x = some (.ins c.tx dx (txF l v)) → LAt H' l t → Q .non H'
theorem ok_Text_init (T : Txt K mg c) (G_need_chars : GF P w K mg base 4 "need_chars" ["value"] spNeedChars) (G_counts_in : GF P w K mg base 2 "counts_in" ["chars"] spCounts) : KF P w K mg base 5 "Text" c.tx ["self", "chars"] (spTextInit c) := by
  refine T.d_Text_init.kf sc_Text_init bi_Text_init (fun vs H Q E h => ?_) (fun f cdv A outer s H vs Q E hr h => ?_)
  · obtain ⟨x, dx, a, t, rfl, _⟩ := h
    rfl
  · obtain ⟨x, dx, a, t, rfl, hx, ha, hc, hn, q⟩ := h
    refine ⟨_, (pss_cons (ps_expr (pe_gf G_need_chars hr (pa_cons (pv 1) pa_nil)))
      (pss_cons (ps_fld (pv 0) (pe_callTy call_list_of (by rfl) T.z_list (by decide +kernel) (pa_cons (pv 1) pa_nil)) rfl)
      (pss_one (ps_fld (pv 0) (pe_gf G_counts_in hr (pa_cons (pv 1) pa_nil)) rfl)))), ?_⟩
    refine ⟨_, rfl, a, t, rfl, ha, hc, fun H1 s1 => ?_⟩
    refine ⟨_, rfl, a, _, rfl, .inl (SqL.of (s1 _ _ ha)), fun l hl => ?_⟩
    have s2 : Same H (upd H1 l (.lst (t.map V.int))) := same_up s1 hl
    have nx : x ≠ l := ne_of_none (s1 _ _ hx) hl
    have na : a ≠ x := ne_of ha hx (by intro z; cases z)
    refine ⟨_, rfl, x, c.tx, dx, [], rfl, s2 _ _ hx, T.cl_tx, T.n_tx_own_chars, by show 0 < 1000; decide, ?_⟩
    refine ⟨_, rfl, a, t, rfl, ?_, hn, fun H3 p s3 => ?_⟩
    · show upd _ x _ a = _
      rw [upd_ne na]
      exact s2 _ _ ha
    refine ⟨_, rfl, x, c.tx, dx, _, rfl, s3 _ _ upd_same, T.cl_tx, T.n_tx_own_counts, by show 1 < 1000; decide, ?_⟩
    refine q _ l (.ref p) (fun b o e hb => ?_) (s1.free hl) upd_same ?_
    · rw [upd_ne hb]
      exact s3 _ _ (by rw [upd_ne hb]; exact s2 _ _ e)
    · show upd _ x _ l = _
      rw [upd_ne nx.symm]
      exact s3 _ _ (by rw [upd_ne nx.symm]; exact upd_same)
/-- Text(a list) -/
theorem mk_text {H : Hp} {a : Addr} {t : List Int} {Q : VK} (ha : LAt H a t) (hc : ∀ y ∈ t, ChOk y) (hn : t.length ≤ 100000) (q : ∀ H' p, Same H H' → TextAt c (Fr H H') p t → Q (.ref p) H') :
    ∀ x dx, H x = none → H dx = none → dx ≠ x → spTextInit c [.ref x, .ref a] (upd (upd H dx (.own x)) x (.ins c.tx dx [])) (fun v H2 => v = .non ∧ Q (.ref x) H2) E0 := fun x dx nx nd ne => by
  have s1 : Same H (upd (upd H dx (.own x)) x (.ins c.tx dx [])) := fun b o e => by
    rw [upd_ne (ne_of_none e nx), upd_ne (ne_of_none e nd)]
    exact e
  refine ⟨x, dx, a, t, rfl, upd_same, s1 _ _ ha, hc, hn, fun H' l v k hl hx hL => ⟨rfl, ?_⟩⟩
  have s2 : Same H H' := fun b o e => k b o (s1 _ _ e) (ne_of_none e nx)
  have nl : H l = none := s1.free hl
  refine q H' x s2 ⟨dx, l, v, ?_, ?_⟩
  · unfold Fr
    rw [if_pos nx]
    exact hx
  · show Fr H H' l = _
    unfold Fr
    rw [if_pos nl]
    exact hL
/- Text.chars: 0 self -/
theorem sc_Text_chars : FnScope ["self"] ["self"] (defScope s_Text_chars) := ⟨rfl, rfl, rfl, by decide +kernel, rfl, by decide +kernel, by decide +kernel⟩
theorem bi_Text_chars : BindsB "chars" "Text.chars" s_Text_chars ["self"] := fun _ _ _ _ _ _ us hl => match us, hl with | [_], _ => rfl
def spTextChars (c : Cs) : Sp := fun vs H Q _ => ∃ (x : Addr) (t : List Int), vs = [.ref x] ∧ TextAt c H x t ∧ ∀ l, H l = none → Q (.ref l) (upd H l (.lst (t.map V.int)))
theorem ok_Text_chars (T : Txt K mg c) : MF P w K mg base 1 c.tx "chars" ["self"] [] (spTextChars c) := by
  refine T.d_Text_chars.mf sc_Text_chars bi_Text_chars (fun vs H Q E h => ?_) (fun f cdv A outer s H vs Q E hr h => ?_)
  · obtain ⟨x, t, rfl, _⟩ := h
    rfl
  · obtain ⟨x, t, rfl, ⟨dx, l, v, hx, hl⟩, q⟩ := h
    refine ⟨_, (pss_one (ps_ret (pe_callTy call_list_of (by rfl) T.z_list (by decide +kernel) (pa_cons (pe_fld (pv 0) rfl) pa_nil)))), ?_⟩
    exact ⟨_, rfl, x, c.tx, dx, _, _, rfl, hx, T.cl_tx, T.n_tx_own_chars, rfl, l, _, rfl, .inl (SqL.of hl), fun p hp => q p hp⟩
/- Text.__len__: 0 self -/
theorem sc_Text_len : FnScope ["self"] ["self"] (defScope s_Text_len) := ⟨rfl, rfl, rfl, by decide +kernel, rfl, by decide +kernel, by decide +kernel⟩
theorem bi_Text_len : BindsB "__len__" "Text.__len__" s_Text_len ["self"] := fun _ _ _ _ _ _ us hl => match us, hl with | [_], _ => rfl
def spTextLen (c : Cs) : Sp := fun vs H Q _ => ∃ (x : Addr) (t : List Int), vs = [.ref x] ∧ TextAt c H x t ∧ Q (.int t.length) H
theorem ok_Text_len (T : Txt K mg c) : MF P w K mg base 1 c.tx "__len__" ["self"] [] (spTextLen c) := by
  refine T.d_Text_len.mf sc_Text_len bi_Text_len (fun vs H Q E h => ?_) (fun f cdv A outer s H vs Q E hr h => ?_)
  · obtain ⟨x, t, rfl, _⟩ := h
    rfl
  · obtain ⟨x, t, rfl, ⟨dx, l, v, hx, hl⟩, q⟩ := h
    refine ⟨_, (pss_one (ps_ret (pe_callB call_len_seq (by rfl) T.z_len (by decide +kernel) (pa_cons (pe_fld (pv 0) rfl) pa_nil)))), ?_⟩
    refine ⟨_, rfl, x, c.tx, dx, _, _, rfl, hx, T.cl_tx, T.n_tx_own_chars, rfl, l, _, rfl, .inl (SqL.of hl), ?_⟩
    rw [List.length_map]
    exact q
end
end Tc
/-! # The plain law, part 2: rows in their normal form -/
namespace Tc
theorem take_snoc {α : Type} {l : List α} {i : Nat} {x : α} (h : l[i]? = some x) : l.take (i + 1) = l.take i ++ [x] := by
  rw [List.take_add_one, h]
  rfl
def rowOf (w : Bool) (m : Nat) : Row := if w then .drop m else .keep m
structure NS where
  f : List Row
  w : Bool
  m : Nat
def flush (S : NS) (cs : List Int) (g : Option Bool) : Bool := decide (0 < S.m) && (!cs.isEmpty || (g == some true) != S.w || g.isNone)
def nzf (S : NS) (cs : List Int) (g : Option Bool) : List Row := if flush S cs g then S.f ++ [rowOf S.w S.m] else S.f
def nzm (S : NS) (cs : List Int) (g : Option Bool) : Nat := if flush S cs g then 0 else S.m
def nstep (S : NS) (cs : List Int) (g : Option Bool) : NS := ⟨if cs.isEmpty then nzf S cs g else nzf S cs g ++ [.put cs], g == some true, nzm S cs g + (if g.isSome then 1 else 0)⟩
def nst (D : Dl) : Nat → NS
  | 0 => ⟨[], false, 0⟩
  | i + 1 => nstep (nst D i) (D.ps.getD i []) D.ds[i]?
def norm (D : Dl) : List Row := (nst D (D.ds.length + 1)).f
theorem gstep_rowOf (D : Dl) (w : Bool) (m : Nat) : gstep D (rowOf w m) = ⟨D.ps ++ List.replicate m [], D.ds ++ List.replicate m w⟩ := by
  cases w <;> rfl
theorem gstep_row0 (D : Dl) (w : Bool) : gstep D (rowOf w 0) = D := by
  rw [gstep_rowOf]
  simp
theorem gstep_row1 (D : Dl) (w : Bool) (m : Nat) : gstep D (rowOf w (m + 1)) = gstep (gstep D (rowOf w m)) (rowOf w 1) := by
  rw [gstep_rowOf, gstep_rowOf, gstep_rowOf]
  simp [List.replicate_succ', List.append_assoc]
def putc (D : Dl) (cs : List Int) : Dl := if cs.isEmpty then D else gstep D (.put cs)
theorem back_full {ds : List Bool} {k : Nat} (hk : k ≤ ds.length) (h : k = 0 ∨ ds[k - 1]? ≠ some true) : back (ds.take k) = k := by
  unfold back
  rw [List.length_take, Nat.min_eq_left hk]
  cases k with
  | zero => rfl
  | succ k =>
    unfold backAt
    rw [List.getElem?_take_of_lt (Nat.lt_succ_self k)]
    rcases h with h | h
    · omega
    · have h2 : ds[k]? ≠ some true := h
      rw [if_neg h2]
theorem putc_at {D : Dl} (w : D.Wf) {k : Nat} (hk : k ≤ D.ds.length) : putc ⟨D.ps.take k ++ [[]], D.ds.take k⟩ (D.ps.getD k []) = ⟨D.ps.take (k + 1), D.ds.take k⟩ := by
  have hl := w.ln
  have e : D.ps[k]? = some (D.ps.getD k []) := by
    rw [List.getD_eq_getElem?_getD, List.getElem?_eq_getElem (by omega)]
    rfl
  unfold putc
  by_cases hc : D.ps.getD k [] = []
  · rw [hc]
    show (⟨D.ps.take k ++ [[]], D.ds.take k⟩ : Dl) = _
    rw [take_snoc e, hc]
  · have h2 : (D.ps.getD k []).isEmpty = false := by
      cases h : D.ps.getD k [] with
      | nil => exact absurd h hc
      | cons _ _ => rfl
    rw [h2]
    have hb : back (D.ds.take k) = k := back_full hk (by
      by_cases h0 : k = 0
      · exact .inl h0
      · refine .inr fun z => hc ?_
        have := w.nf (k - 1) z
        rw [Nat.sub_add_cancel (by omega)] at this
        rw [List.getD_eq_getElem?_getD, this]
        rfl)
    show (⟨(D.ps.take k ++ [[]]).set (back (D.ds.take k)) _, D.ds.take k⟩ : Dl) = _
    have hlen : (D.ps.take k).length = k := by rw [List.length_take]; omega
    rw [hb, List.set_append_right _ _ (by omega), hlen, Nat.sub_self, take_snoc e]
    simp only [List.set_cons_zero]
    rw [List.getD_eq_getElem?_getD, List.getElem?_append_right (by omega), hlen, Nat.sub_self]
    rfl
/-- one step, its rows seen through their gaps -/
theorem nstep_gaps (S : NS) (cs : List Int) (g : Option Bool) : gaps ((nstep S cs g).f ++ (if g.isSome then [rowOf (nstep S cs g).w (nstep S cs g).m] else [])) = (if g.isSome then gstep (putc (gaps (S.f ++ [rowOf S.w S.m])) cs) (rowOf (g == some true) 1) else putc (gaps (S.f ++ [rowOf S.w S.m])) cs) := by
  have key : ∀ {f : List Row} {m : Nat}, (gaps f = gaps (S.f ++ [rowOf S.w S.m]) ∧ m = 0) ∨ (cs = [] ∧ f = S.f ∧ m = S.m ∧ (g == some true) = S.w ∧ g.isSome = true) →
      gaps ((if cs.isEmpty then f else f ++ [.put cs]) ++ (if g.isSome then [rowOf (g == some true) (m + (if g.isSome then 1 else 0))] else [])) = (if g.isSome then gstep (putc (gaps (S.f ++ [rowOf S.w S.m])) cs) (rowOf (g == some true) 1) else putc (gaps (S.f ++ [rowOf S.w S.m])) cs) := by
    intro f m h
    rcases h with ⟨h, rfl⟩ | ⟨rfl, rfl, rfl, h3, h4⟩
    · have e : gaps (if cs.isEmpty then f else f ++ [.put cs]) = putc (gaps (S.f ++ [rowOf S.w S.m])) cs := by
        unfold putc
        cases cs.isEmpty with
        | true => exact h
        | false => exact (gaps_snoc _ _).trans (by rw [h]; rfl)
      cases hg : g.isSome with
      | true =>
        show gaps (_ ++ [rowOf _ (0 + 1)]) = gstep _ _
        rw [gaps_snoc, e]
      | false =>
        show gaps (_ ++ []) = putc _ _
        rw [List.append_nil, e]
    · rw [h4, h3]
      show gaps (S.f ++ [rowOf S.w (S.m + 1)]) = gstep (gaps _) _
      rw [gaps_snoc, gaps_snoc, gstep_row1]
  refine key (m := nzm S cs g) (f := nzf S cs g) ?_
  unfold nzf nzm
  cases hf : flush S cs g with
  | true => exact .inl ⟨rfl, rfl⟩
  | false =>
    by_cases hm : S.m = 0
    · refine .inl ⟨?_, hm⟩
      rw [gaps_snoc, hm, gstep_row0]
      rfl
    · unfold flush at hf
      have hm2 : decide (0 < S.m) = true := decide_eq_true (by omega)
      rw [hm2, Bool.true_and] at hf
      simp only [Bool.or_eq_false_iff] at hf
      obtain ⟨⟨h1, h2⟩, h3⟩ := hf
      refine .inr ⟨?_, rfl, rfl, ?_, ?_⟩
      · cases cs with
        | nil => rfl
        | cons _ _ => cases h1
      · cases g with
        | none => cases h3
        | some b => cases b <;> cases hw : S.w <;> rw [hw] at h2 <;> first | rfl | cases h2
      · cases g with
        | none => cases h3
        | some b => rfl
theorem norm_at {D : Dl} (w : D.Wf) : ∀ k, k ≤ D.ds.length → gaps ((nst D k).f ++ [rowOf (nst D k).w (nst D k).m]) = ⟨D.ps.take k ++ [[]], D.ds.take k⟩
  | 0, _ => rfl
  | k + 1, h => by
    have hd : D.ds[k]? = some (D.ds[k]'(by omega)) := List.getElem?_eq_getElem (by omega)
    have e := nstep_gaps (nst D k) (D.ps.getD k []) D.ds[k]?
    rw [norm_at w k (by omega), putc_at w (by omega), hd] at e
    have e2 : gaps ((nst D (k + 1)).f ++ [rowOf (nst D (k + 1)).w (nst D (k + 1)).m]) = gstep ⟨D.ps.take (k + 1), D.ds.take k⟩ (rowOf ((some (D.ds[k]'(by omega))) == some true) 1) := by
      show gaps ((nstep (nst D k) (D.ps.getD k []) D.ds[k]?).f ++ [rowOf (nstep (nst D k) (D.ps.getD k []) D.ds[k]?).w (nstep (nst D k) (D.ps.getD k []) D.ds[k]?).m]) = _
      rw [hd]
      exact e
    rw [e2, gstep_rowOf, take_snoc hd]
    have e3 : ∀ b : Bool, ((some b) == some true) = b := fun b => by cases b <;> rfl
    rw [e3]
    rfl
theorem gaps_norm {D : Dl} (w : D.Wf) : gaps (norm D) = D := by
  have hl := w.ln
  have e := nstep_gaps (nst D D.ds.length) (D.ps.getD D.ds.length []) D.ds[D.ds.length]?
  rw [norm_at w _ (Nat.le_refl _), putc_at w (Nat.le_refl _), List.getElem?_eq_none (Nat.le_refl _)] at e
  have e2 : gaps (norm D ++ []) = ⟨D.ps.take (D.ds.length + 1), D.ds.take D.ds.length⟩ := by
    unfold norm
    show gaps ((nstep (nst D D.ds.length) (D.ps.getD D.ds.length []) D.ds[D.ds.length]?).f ++ []) = _
    rw [List.getElem?_eq_none (Nat.le_refl _)]
    exact e
  rw [List.append_nil] at e2
  rw [e2, List.take_of_length_le (by omega), List.take_of_length_le (Nat.le_refl _)]
theorem nst_len (D : Dl) : ∀ k, ((nst D k).f.length ≤ 2 * k) ∧ (nst D (k + 1)).f.length ≤ 2 * k + 1
  | 0 => by
    refine ⟨Nat.le_refl _, ?_⟩
    show (if (D.ps.getD 0 []).isEmpty then nzf ⟨[], false, 0⟩ _ _ else nzf ⟨[], false, 0⟩ _ _ ++ [_]).length ≤ 1
    have e : nzf ⟨[], false, 0⟩ (D.ps.getD 0 []) D.ds[0]? = [] := rfl
    rw [e]
    split <;> simp
  | k + 1 => by
    have ih := nst_len D k
    refine ⟨by have := ih.2; omega, ?_⟩
    show (if (D.ps.getD (k + 1) []).isEmpty then nzf (nst D (k + 1)) _ _ else nzf (nst D (k + 1)) _ _ ++ [_]).length ≤ _
    have e : (nzf (nst D (k + 1)) (D.ps.getD (k + 1) []) D.ds[k + 1]?).length ≤ (nst D (k + 1)).f.length + 1 := by
      unfold nzf
      split
      · simp
      · omega
    split
    · omega
    · rw [List.length_append, List.length_singleton]
      omega
theorem norm_len (D : Dl) : (norm D).length ≤ 2 * D.ds.length + 1 := (nst_len D D.ds.length).2
end Tc
/-! # The walks: rows of a delta -/
namespace Tc
open PySem PySem.Spec PyProof.Rows L2
theorem while_nm {c : TT} {tb : TS} {D : Ends} {σ : L2.St} {H : Hp} (Pv : L2.St → Hp → Prop) (Cond : Bool → L2.St → Prop) (μ : L2.St → Nat) (h0 : Pv σ H)
    (hc : ∀ σ H Q, Pv σ H → (∀ b, Cond b σ → Q b H) → c σ H Q) (hs : ∀ σ H, Pv σ H → Cond true σ → tb { D with nx := fun σ' H' => Pv σ' H' ∧ μ σ' < μ σ, ct := fun σ' H' => Pv σ' H' ∧ μ σ' < μ σ, bk := D.nx } σ H)
    (hd : ∀ σ H, Pv σ H → Cond false σ → D.nx σ H) : tWhile c tb D σ H :=
  ⟨fun m σ H => m = μ σ ∧ Pv σ H, ⟨_, rfl, h0⟩, by
    rintro m σ H ⟨rfl, p⟩
    refine hc σ H _ p fun b hb => ?_
    cases b with
    | true => exact ⟨_, fun σ' H' z => ⟨_, z.2, rfl, z.1⟩, hs σ H p hb⟩
    | false => exact hd σ H p hb⟩
def slotN (σ : L2.St) (i : Nat) : Nat := match σ[i]? with
  | some (some (V.int z)) => z.toNat
  | _ => 0
theorem lk : ∀ n : Nat, n ≤ 10 → n ≤ sizeLine := fun n h => Nat.le_trans h (by decide)
theorem se : ∀ a b : Str, decide (V.str a = V.str b) = decide (a = b) := fun a b => by
  by_cases h : a = b
  · rw [decide_eq_true h, decide_eq_true (congrArg V.str h)]
  · rw [decide_eq_false h, decide_eq_false fun z => h (V.str.inj z)]
theorem lmap_at {α β : Type} {f : α → β} {l : List α} {i : Nat} {x : β} (h : (l.map f)[i]? = some x) : ∃ a, l[i]? = some a ∧ x = f a := by
  rw [List.getElem?_map] at h
  obtain ⟨a, h1, h2⟩ := Option.map_eq_some_iff.mp h
  exact ⟨a, h1, h2.symm⟩
theorem ixN_of {n i : Nat} (h : i < n) : ixN n (i : Int) = some i := by
  unfold ixN
  rw [if_pos (by omega), if_pos (by omega)]
  rfl
theorem atI_of {α : Type} {l : List α} {i : Nat} {x : α} (h : l[i]? = some x) : atI l (i : Int) = some x := by
  unfold atI
  rw [ixN_of (List.getElem?_eq_some_iff.mp h).1]
  exact h
theorem flat_at : ∀ {l : List (List Int)} {k : Nat} {x : List Int}, l[k]? = some x → x.length ≤ l.flatten.length
  | [], _, _, h => by simp at h
  | y :: r, 0, x, h => by
    have e : y = x := by simpa using h
    rw [e, List.flatten_cons, List.length_append]
    omega
  | y :: r, k + 1, x, h => by
    have := flat_at (l := r) (k := k) (by simpa using h)
    rw [List.flatten_cons, List.length_append]
    omega
theorem pr_len {α β : Type} {F : α → β → Prop} : ∀ {l : List α} {m : List β}, Paired F l m → l.length = m.length
  | _, _, .nil => rfl
  | _, _, .cons _ t => congrArg (· + 1) (pr_len t)
section
variable {P : Program} {w : World} {K : PySem.W.Frag} {mg : Str → Option Value} {base : Heap} {c : Cs}
def kdw (b : Bool) : Str := if b then "drop" else "keep"
theorem kdw_put (b : Bool) : decide (V.str (kdw b) = V.str "put") = false := by cases b <;> decide +kernel
theorem kdw_drop (b : Bool) : decide (V.str (kdw b) = V.str "drop") = b := by cases b <;> decide +kernel
/-- the two growing lists of gaps_of -/
structure GI (H : Hp) (pa da : Addr) (H1 : Hp) (D : Dl) : Prop where
  s : Same H H1
  np : H pa = none
  nd : H da = none
  ne : pa ≠ da
  P : ∃ as : List Addr, H1 pa = some (.lst (as.map V.ref)) ∧ Paired (LAt (Fr H (Msk H1 [pa, da]))) as D.ps
  d : H1 da = some (.lst (D.ds.map V.bl))
theorem GI.newc {H H1 : Hp} {pa da p : Addr} {D : Dl} {o : HO} (g : GI H pa da H1 D) (hp : H1 p = none) : GI H pa da (upd H1 p o) D := by
  obtain ⟨s, np, nd, ne, ⟨as, h1, h2⟩, hd⟩ := g
  refine ⟨s.trans (same_upd hp), np, nd, ne, ⟨as, ?_, pr_imp (fun _ _ z => z.mono (fr_next (msk_mono (same_upd hp)))) h2⟩, ?_⟩
  · rw [upd_ne (ne_of_none h1 hp)]; exact h1
  · rw [upd_ne (ne_of_none hd hp)]; exact hd
theorem GI.grow {H H1 : Hp} {pa da e : Addr} {D : Dl} {b : Bool} {as : List Addr} (g : GI H pa da H1 D) (h1 : H1 pa = some (.lst (as.map V.ref))) (h2 : Paired (LAt (Fr H (Msk H1 [pa, da]))) as D.ps) (he : upd H1 da (.lst (D.ds.map V.bl ++ [.bl b])) e = none) :
    GI H pa da (upd (upd (upd H1 da (.lst (D.ds.map V.bl ++ [.bl b]))) e (.lst [])) pa (.lst (as.map V.ref ++ [.ref e]))) (gstep D (rowOf b 1)) := by
  have nde : e ≠ da := fun z => by rw [z, upd_same] at he; cases he
  have he1 : H1 e = none := by rw [upd_ne nde] at he; exact he
  have npe : pa ≠ e := ne_of_none h1 he1
  have nhe : H e = none := g.s.free he1
  rw [gstep_rowOf]
  have sm : Same (Msk H1 [pa, da]) (Msk (upd (upd (upd H1 da (.lst (D.ds.map V.bl ++ [.bl b]))) e (.lst [])) pa (.lst (as.map V.ref ++ [.ref e]))) [pa, da]) := by
    rw [msk_mut (by simp)]
    have x := msk_mono (M := [pa, da]) (same_upd (o := .lst []) he)
    rwa [msk_mut (by simp)] at x
  refine ⟨same_mut (same_mut (same_mut g.s g.nd) nhe) g.np, g.np, g.nd, g.ne, ⟨as ++ [e], ?_, pr_app (pr_imp (fun _ _ z => z.mono (fr_next sm)) h2) (.cons ?_ .nil)⟩, ?_⟩
  · rw [upd_same, List.map_append]
    rfl
  · show Fr H _ e = some (.lst [])
    unfold Fr
    rw [if_pos nhe, msk_at (by simp [npe.symm, nde]), upd_ne npe.symm, upd_same]
  · rw [upd_ne g.ne.symm, upd_ne nde.symm, upd_same]
    simp
/- gaps_of: 0 rows, 1 puts, 2 drops, 3 word, 4 more, 5 gap, 6 step -/
theorem sc_gaps_of : FnScope ["rows", "puts", "drops", "word", "more", "gap", "step"] ["rows"] (defScope s_gaps_of) := ⟨rfl, rfl, rfl, by decide +kernel, rfl, by decide +kernel, by decide +kernel⟩
theorem bi_gaps_of : BindsB "gaps_of" "gaps_of" s_gaps_of ["rows"] := fun _ _ _ _ _ _ us hl => match us, hl with | [_], _ => rfl
def spGapsOf : Sp := fun vs H Q _ => ∃ (r : Addr) (rs : List Row), vs = [.ref r] ∧ RowsAt H r rs ∧ before rs ≤ 100000 ∧ (rputs rs).length ≤ 100000 ∧
  ∀ H' p pa da, Same H H' → H' p = some (.tup [.ref pa, .ref da]) → LLAt (Fr H H') pa (gaps rs).ps → Fr H H' da = some (.lst ((gaps rs).ds.map V.bl)) → Q (.ref p) H'
theorem ok_gaps_of (T : Txt K mg c) : GF P w K mg base 1 "gaps_of" ["rows"] spGapsOf := by
  refine T.d_gaps_of.gf sc_gaps_of bi_gaps_of (fun vs H Q E h => ?_) (fun f cdv A outer s H vs Q E hr h => ?_)
  · obtain ⟨r, rs, rfl, _⟩ := h
    rfl
  · obtain ⟨r, rs, rfl, ⟨ra, hra, hrs⟩, hb, hp, q⟩ := h
    refine ⟨_, (pss_cons (ps_set (i := 1) sc_gaps_of.nd rfl (Or.inl rfl) (pe_lst (pa_cons (pe_lst pa_nil) pa_nil)))
      (pss_cons (ps_set (i := 2) sc_gaps_of.nd rfl (Or.inl rfl) (pe_lst pa_nil))
      (pss_cons (ps_for PassesOwn.never rfl (pi_listN K (pv 0)) (pg_tup rfl (pgs_cons (pg_name (i := 3) sc_gaps_of.nd rfl (Or.inl rfl)) (pgs_cons (pg_name (i := 4) sc_gaps_of.nd rfl (Or.inl rfl)) pgs_nil)))
      (pss_one (ps_if (pt_cmpR op_eq (pv 3) (pe_globE T.s_PUT) (nomark _)) (pss_cons (ps_set (i := 5) sc_gaps_of.nd rfl (Or.inl rfl) (pe_callB call_len_seq (by rfl) T.z_len (by decide +kernel) (pa_cons (pv 2) pa_nil)))
      (pss_cons (ps_while PassesOwn.never (PW.pt (pw_and (pt_cmpR op_gt (pv 5) pe_int (nomark _)) (pw_and1 (pt_val (pe_ix ix_list (pv 2) (pe_op op_sub (pv 5) pe_int) (fun _ _ => rfl))))))
      (pss_one (ps_set (i := 5) sc_gaps_of.nd rfl (Or.inl rfl) (pe_op op_sub (pv 5) pe_int))))
      (pss_one (ps_asg (pe_op op_cat (pe_ix ix_list (pv 1) (pv 5) (fun _ _ => rfl)) (pe_callTy call_list_of (by rfl) T.z_list (by decide +kernel) (pa_cons (pv 4) pa_nil))) (pg_sub (pv 1) (pv 5) set_list))))) (pss_one (ps_for PassesOwn.never rfl (pi_range1 (by rfl) T.z_range (pa_cons (pv 4) pa_nil)) (pg_name (i := 6) sc_gaps_of.nd rfl (Or.inl rfl))
      (pss_cons (ps_expr (pe_bm PySem.F.plainAttrs_list PySem.F.slot_list_append PySem.F.type_list_append mt_append (pv 2) (pa_cons (pe_cmpR op_eq (pv 3) (pe_globE T.s_DROP) (nomark _)) pa_nil)))
      (pss_one (ps_expr (pe_bm PySem.F.plainAttrs_list PySem.F.slot_list_append PySem.F.type_list_append mt_append (pv 1) (pa_cons (pe_lst pa_nil) pa_nil))))))))))
      (pss_one (ps_ret (pe_tup (pa_cons (pv 1) (pa_cons (pv 2) pa_nil)))))))), ?_⟩
    refine ⟨lk 0 (by decide), fun e he => ⟨lk 1 (by decide), fun pa hpa => ⟨lk 0 (by decide), fun da hda => ?_⟩⟩⟩
    refine ⟨_, rfl, r, rfl, ⟨ra.map V.ref, ?_⟩, for_list (K := K) (a := r) (xs := ra.map V.ref) (fun i σ H1 => ∃ v3 v4 v5 v6, σ = [some (.ref r), some (.ref pa), some (.ref da), v3, v4, v5, v6] ∧ GI H pa da H1 (gaps (rs.take i))) ?_ ?_ ?_ ?_⟩
    · have h0 : Same H (upd (upd (upd H e (.lst [])) pa (.lst [.ref e])) da (.lst [])) := ((same_upd he).trans (same_upd hpa)).trans (same_upd hda)
      exact h0 _ _ hra |> SqL.of
    · have s1 : Same H (upd H e (.lst [])) := same_upd he
      have ne1 : e ≠ pa := ne_of_none (H := upd H e (.lst [])) upd_same hpa
      have ne2 : pa ≠ da := ne_of_none (H := upd (upd H e (.lst [])) pa (.lst [.ref e])) upd_same hda
      have ne3 : e ≠ da := ne_of_none (H := upd (upd H e (.lst [])) pa (.lst [.ref e])) (by rw [upd_ne ne1]; exact upd_same) hda
      refine ⟨none, none, none, none, rfl, ((same_upd he).trans (same_upd hpa)).trans (same_upd hda), s1.free hpa, (s1.trans (same_upd hpa)).free hda, ne2, ⟨[e], ?_, .cons ?_ .nil⟩, upd_same⟩
      · rw [upd_ne ne2]
        exact upd_same
      · show Fr H (Msk _ _) e = some (.lst [])
        unfold Fr
        rw [if_pos he, msk_at (by simp [ne1, ne3]), upd_ne ne3, upd_ne ne1]
        exact upd_same
    · rintro i σ H1 - ⟨v3, v4, v5, v6, rfl, g⟩
      exact SqL.of (g.s _ _ hra)
    · rintro i x σ H1 hx ⟨v3, v4, v5, v6, rfl, g⟩
      obtain ⟨a, hai, rfl⟩ := lmap_at hx
      obtain ⟨row, hri, hrow⟩ := pr_at2 hrs hai
      have hrow1 := hrow.mono g.s
      have hgi : gaps (rs.take (i + 1)) = gstep (gaps (rs.take i)) row := by rw [take_snoc hri, gaps_snoc]
      have hbi : (gaps (rs.take i)).ds.length + row.ln ≤ 100000 := by
        have e1 := ds_gstep (gaps (rs.take i)) row
        rw [← hgi, ds_gaps] at e1
        have e2 : before rs = before (rs.take (i + 1)) + before (rs.drop (i + 1)) := by rw [← before_append, List.take_append_drop]
        omega
      have hpi : (gaps (rs.take i)).ps.flatten.length + (rputs [row]).length ≤ 100000 := by
        rw [puts_gaps, ← List.length_append, ← rputs_append, ← take_snoc hri]
        have e2 : rputs rs = rputs (rs.take (i + 1)) ++ rputs (rs.drop (i + 1)) := by rw [← rputs_append, List.take_append_drop]
        rw [e2, List.length_append] at hp
        omega
      have wfD := wf_gaps (rs.take i)
      generalize gaps (rs.take i) = D at *
      have two : (∃ (b : Bool) (n : Nat), row = rowOf b n ∧ H1 a = some (.tup [.str (kdw b), .int n])) ∨ ∃ cs, row = .put cs := by
        cases row with
        | keep n => exact .inl ⟨false, n, rfl, hrow1⟩
        | drop n => exact .inl ⟨true, n, rfl, hrow1⟩
        | put cs => exact .inr ⟨cs, rfl⟩
      rcases two with ⟨b, n, e2, e1⟩ | ⟨cs, e2⟩
      · have hn : row.ln = n := by rw [e2]; cases b <;> rfl
        refine ⟨a, _, rfl, SqT.of e1, rfl, _, _, rfl, _, _, rfl, rfl, ?_⟩
        refine ⟨_, rfl, rfl, _, rfl, ?_⟩
        rw [kdw_put]
        refine iteF ?_
        refine ⟨_, rfl, n, rfl, by omega, by omega, for_range (fun j σ H2 => ∃ v6, σ = [some (.ref r), some (.ref pa), some (.ref da), some (.str (kdw b)), some (.int n), v5, v6] ∧ GI H pa da H2 (gstep D (rowOf b j))) ⟨v6, rfl, by rw [gstep_row0]; exact g⟩ ?_ ?_⟩
        · rintro j σ H2 hj ⟨v6, rfl, g2⟩
          have hj2 : j < n := by simpa using hj
          rw [gstep_row1]
          have hl : (gstep D (rowOf b j)).ds.length ≤ 100000 := by
            rw [gstep_rowOf]
            simp
            omega
          have hw : (gstep D (rowOf b j)).ps.length = (gstep D (rowOf b j)).ds.length + 1 := by
            rw [gstep_rowOf]
            have := wfD.ln
            simp
            omega
          generalize gstep D (rowOf b j) = D2 at *
          obtain ⟨as, h1, h2⟩ := g2.P
          refine ⟨_, rfl, .inl ⟨rfl, _, SqL.of g2.d⟩, _, rfl, rfl, da, _, _, rfl, rfl, g2.d, szlt _ (by rw [List.length_map]; omega), ?_⟩
          have h1' : upd H2 da (.lst (D2.ds.map V.bl ++ [.bl (decide (V.str (kdw b) = V.str "drop"))])) pa = some (.lst (as.map V.ref)) := by
            rw [upd_ne g2.ne]
            exact h1
          refine ⟨_, rfl, .inl ⟨rfl, _, SqL.of h1'⟩, lk 0 (by decide), fun e he => ⟨pa, as.map V.ref, _, rfl, rfl, ?_, szlt _ (by rw [List.length_map, pr_len h2]; omega), ?_⟩⟩
          · rw [upd_ne (ne_of_none h1' he)]
            exact h1'
          · rw [kdw_drop] at he ⊢
            exact ⟨_, rfl, g2.grow h1 h2 he⟩
        · rintro σ H2 ⟨v6, rfl, g2⟩
          refine ⟨_, _, _, _, rfl, ?_⟩
          rw [hgi, e2]
          exact g2
      · subst e2
        obtain ⟨l, e1, hl1⟩ := hrow1
        refine ⟨a, _, rfl, SqT.of e1, rfl, _, _, rfl, _, _, rfl, rfl, ?_⟩
        refine ⟨_, rfl, rfl, _, rfl, ?_⟩
        rw [decide_eq_true (show V.str "put" = V.str "put" from rfl)]
        refine iteT ?_
        refine ⟨_, rfl, da, _, rfl, .inl (SqL.of g.d), ?_⟩
        rw [List.length_map]
        have wl := wfD.ln
        refine while_nm (fun σ H2 => ∃ k : Nat, σ = [some (.ref r), some (.ref pa), some (.ref da), some (.str "put"), some (.ref l), some (.int k), v6] ∧ H2 = H1 ∧ k ≤ D.ds.length ∧ backAt D.ds k = back D.ds)
          (fun b σ => b = (decide (0 < slotN σ 5) && (D.ds[slotN σ 5 - 1]? == some true))) (fun σ => slotN σ 5) ⟨D.ds.length, rfl, rfl, Nat.le_refl _, rfl⟩ ?_ ?_ ?_
        · rintro σ H2 Q ⟨k, rfl, rfl, hk, hb1⟩ hQ
          refine ⟨_, rfl, _, _, rfl, rfl, _, rfl, ?_⟩
          by_cases hk0 : k = 0
          · subst hk0
            refine iteF ?_
            exact hQ false rfl
          · rw [decide_eq_true (show (0 : Int) < (k : Int) by omega)]
            refine iteT ?_
            have hd : D.ds[k - 1]? = some (D.ds[k - 1]'(by omega)) := List.getElem?_eq_getElem (by omega)
            refine ⟨_, rfl, _, rfl, _, _, rfl, rfl, da, D.ds.map V.bl, ((k - 1 : Nat) : Int), .bl (D.ds[k - 1]'(by omega)), rfl, ?_, SqL.of g.d, atI_of (by rw [List.getElem?_map, hd]; rfl), _, rfl, hQ _ ?_⟩
            · show V.int ((k : Int) - 1) = _
              rw [Int.natCast_sub (by omega)]
              rfl
            · show _ = (decide (0 < k) && (D.ds[k - 1]? == some true))
              rw [decide_eq_true (by omega), hd]
              cases D.ds[k - 1]'(by omega) <;> rfl
        · rintro σ H2 ⟨k, rfl, rfl, hk, hb1⟩ hc
          have hc2 : true = (decide (0 < k) && (D.ds[k - 1]? == some true)) := hc
          obtain ⟨h1, h2⟩ := Bool.and_eq_true_iff.mp hc2.symm
          have h1 := of_decide_eq_true h1
          refine ⟨_, rfl, _, _, rfl, rfl, ⟨k - 1, ?_, rfl, by omega, ?_⟩, ?_⟩
          · show [_, _, _, _, _, some (V.int ((k : Int) - 1)), _] = _
            rw [show (k : Int) - 1 = ((k - 1 : Nat) : Int) by omega]
          · rw [← hb1]
            obtain ⟨m, rfl⟩ : ∃ m, k = m + 1 := ⟨k - 1, by omega⟩
            have h2 : D.ds[m]? = some true := eq_of_beq h2
            show backAt D.ds m = if D.ds[m]? = some true then backAt D.ds m else m + 1
            rw [if_pos h2]
          · show ((k : Int) - 1).toNat < k
            omega
        · rintro σ H2 ⟨k, rfl, rfl, hk, hb1⟩ hc
          have hc2 : false = (decide (0 < k) && (D.ds[k - 1]? == some true)) := hc
          have ek : k = back D.ds := by
            rw [← hb1]
            cases k with
            | zero => rfl
            | succ m =>
              unfold backAt
              rw [if_neg fun z => ?_]
              rw [show m + 1 - 1 = m from rfl, z] at hc2
              cases hc2
          obtain ⟨as, h1, h2⟩ := g.P
          have hpk : D.ps[k]? = some (D.ps.getD k []) := by
            rw [List.getD_eq_getElem?_getD, List.getElem?_eq_getElem (by omega)]
            rfl
          obtain ⟨b, hb, hbL⟩ := pr_at h2 hpk
          have hbL2 : LAt H2 b (D.ps.getD k []) := hbL.mono (fr_same.trans msk_same)
          have has := pr_len h2
          refine ⟨_, rfl, _, rfl, pa, as.map V.ref, (k : Int), .ref b, rfl, rfl, SqL.of h1, atI_of (by rw [List.getElem?_map, hb]; rfl), ?_⟩
          refine ⟨_, rfl, l, _, rfl, .inl (SqL.of hl1), fun p hp => ?_⟩
          refine ⟨b, p, (D.ps.getD k []).map V.int, cs.map V.int, rfl, rfl, ?_, upd_same, ?_, fun z hz => ?_⟩
          · rw [upd_ne (ne_of_none hbL2 hp)]
            exact hbL2
          · rw [List.length_map, List.length_map]
            have := flat_at hpk
            refine sz _ ?_
            have hpi2 : D.ps.flatten.length + (cs ++ []).length ≤ 100000 := hpi
            rw [List.append_nil] at hpi2
            omega
          · have s2 : Same H2 (upd (upd H2 p (.lst (cs.map V.int))) z (.lst ((D.ps.getD k []).map V.int ++ cs.map V.int))) := (same_upd hp).trans (same_upd hz)
            refine ⟨_, rfl, _, rfl, pa, as.map V.ref, (k : Int), k, rfl, rfl, s2 _ _ h1, ixN_of (by rw [List.length_map]; omega), ?_⟩
            refine ⟨_, _, _, _, rfl, ?_⟩
            rw [hgi]
            have nz : H2 z = none := (same_upd hp).free hz
            have np : pa ≠ z := ne_of_none h1 nz
            have nd : da ≠ z := ne_of_none g.d nz
            have sm : Same (Msk H2 [pa, da]) (Msk (upd (upd (upd H2 p (.lst (cs.map V.int))) z (.lst ((D.ps.getD k []).map V.int ++ cs.map V.int))) pa (.lst ((as.map V.ref).set k (V.ref z)))) [pa, da]) := by
              rw [msk_mut (by simp)]
              exact msk_mono s2
            refine ⟨same_mut (g.s.trans s2) g.np, g.np, g.nd, g.ne, ⟨as.set k z, ?_, ?_⟩, ?_⟩
            · rw [upd_same, List.map_set]
            · show Paired _ (as.set k z) (D.ps.set (back D.ds) (D.ps.getD (back D.ds) [] ++ cs))
              rw [← ek]
              refine pr_put ?_ k (pr_imp (fun _ _ y => y.mono (fr_next sm)) h2)
              show Fr H _ z = some (.lst ((D.ps.getD k [] ++ cs).map V.int))
              unfold Fr
              rw [if_pos (g.s.free nz), msk_at (by simp [np.symm, nd.symm]), upd_ne np.symm, upd_same, List.map_append]
            · rw [upd_ne g.ne.symm]
              exact s2 _ _ g.d
    · rintro σ H1 ⟨v3, v4, v5, v6, rfl, g⟩
      rw [List.length_map, pr_len hrs, List.take_length] at g
      refine ⟨_, rfl, _, rfl, lk 2 (by decide), fun p hp => ?_⟩
      obtain ⟨as, h1, h2⟩ := g.P
      refine q _ p pa da (g.s.trans (same_upd hp)) upd_same ⟨as, ?_, pr_imp (fun _ _ z => z.mono (fr_next (msk_same.trans (same_upd hp)))) h2⟩ ?_
      · exact fr_next (H := H) (same_upd hp) _ _ (by unfold Fr; rw [if_pos g.np]; exact h1)
      · exact fr_next (H := H) (same_upd hp) _ _ (by unfold Fr; rw [if_pos g.nd]; exact g.d)
end
end Tc
/-! # The walks: rows in normal form, a delta's making -/
namespace Tc
open PySem PySem.Spec PyProof.Rows L2
theorem ifS_cps {c : TT} {t u : TS} {D : Ends} {σ : L2.St} {H : Hp} (P : Bool → Hp → Prop) (hc : ∀ Q, (∀ b H1, P b H1 → Q b H1) → c σ H Q) (ht : ∀ H1, P true H1 → t D σ H1) (hu : ∀ H1, P false H1 → u D σ H1) : tIfS c t u D σ H :=
  hc _ fun b H1 h => by
    cases b with
    | true => exact ht H1 h
    | false => exact hu H1 h
theorem seq_join {t u : TS} {D : Ends} {σ : L2.St} {H : Hp} (P : L2.St → Hp → Prop) (h1 : ∀ N : L2.St → Hp → Prop, (∀ σ H, P σ H → N σ H) → t { D with nx := N } σ H) (h2 : ∀ σ H, P σ H → u D σ H) : tSeq t u D σ H := h1 _ h2
theorem ite_kdw {b : Bool} {Q : V → Prop} (h : Q (.str (kdw b))) : if b = true then Q (.str "drop") else Q (.str "keep") := by
  cases b <;> exact h
/-- a growing list of new rows: all cells but fa stand as in Hb -/
structure FI (H Hb : Hp) (fa : Addr) (H2 : Hp) (rows : List Row) : Prop where
  hb : Same H Hb
  s : Same Hb H2
  n : Hb fa = none
  r : ∃ as : List Addr, H2 fa = some (.lst (as.map V.ref)) ∧ Paired (RowAt (Fr H (Msk H2 [fa]))) as rows
section
variable {H Hb H2 H3 : Hp} {fa x : Addr} {rows : List Row} {row : Row} {xs : List V}
theorem FI.same (g : FI H Hb fa H2 rows) (s : Same H2 H3) : FI H Hb fa H3 rows := by
  obtain ⟨hb, s1, n, as, h1, h2⟩ := g
  exact ⟨hb, s1.trans s, n, as, s _ _ h1, pr_imp (fun _ _ z => z.mono (fr_next (msk_mono s))) h2⟩
theorem FI.push (g : FI H Hb fa H2 rows) (h : H2 fa = some (.lst xs)) (hx : RowAt (Fr H (Msk H2 [fa])) x row) : FI H Hb fa (upd H2 fa (.lst (xs ++ [.ref x]))) (rows ++ [row]) := by
  obtain ⟨hb, s1, n, as, h1, h2⟩ := g
  rw [h1] at h
  obtain rfl : as.map V.ref = xs := by cases h; rfl
  refine ⟨hb, same_mut s1 n, n, as ++ [x], by rw [upd_same, List.map_append]; rfl, ?_⟩
  rw [msk_mut (by simp)]
  exact pr_app h2 (.cons hx .nil)
theorem FI.lst (g : FI H Hb fa H2 rows) : ∃ xs, H2 fa = some (.lst xs) ∧ xs.length = rows.length := by
  obtain ⟨hb, s1, n, as, h1, h2⟩ := g
  exact ⟨_, h1, by rw [List.length_map, pr_len h2]⟩
theorem FI.same' (g : FI H Hb fa H2 rows) : Same Hb (Msk H2 [fa]) := same_of_msk (by simpa using g.n) g.s
theorem FI.frb (g : FI H Hb fa H2 rows) : Same (Fr H Hb) (Fr H (Msk H2 [fa])) := fr_next g.same'
theorem FI.start (hb : Same H Hb) (n : Hb fa = none) : FI H Hb fa (upd Hb fa (.lst [])) [] := ⟨hb, same_upd n, n, [], upd_same, .nil⟩
theorem FI.done (g : FI H Hb fa H2 rows) : RowsAt (Fr H H2) fa rows := by
  obtain ⟨hb, s1, n, as, h1, h2⟩ := g
  refine ⟨as, ?_, pr_imp (fun _ _ z => z.mono (fr_next msk_same)) h2⟩
  unfold Fr
  rw [if_pos (hb.free n)]
  exact h1
theorem FI.notfa (g : FI H Hb fa H2 rows) (hx : H2 x = none) : x ≠ fa ∧ H x = none := by
  obtain ⟨xs, h, _⟩ := g.lst
  exact ⟨fun z => (by rw [z, h] at hx; cases hx), (g.hb.trans g.s).free hx⟩
/-- a new row of a number -/
theorem FI.num (g : FI H Hb fa H2 rows) (hx : H2 x = none) (b : Bool) (n : Nat) : RowAt (Fr H (Msk (upd H2 x (.tup [.str (kdw b), .int n])) [fa])) x (rowOf b n) := by
  obtain ⟨h1, h2⟩ := g.notfa hx
  have e : Fr H (Msk (upd H2 x (.tup [.str (kdw b), .int n])) [fa]) x = some (.tup [.str (kdw b), .int n]) := by
    unfold Fr
    rw [if_pos h2, msk_at (by simpa using h1)]
    exact upd_same
  cases b <;> exact e
/-- a new row that puts -/
theorem FI.putr {l : Addr} {cs : List Int} (g : FI H Hb fa H2 rows) (hx : H2 x = none) (hl : LAt (Fr H (Msk H2 [fa])) l cs) : RowAt (Fr H (Msk (upd H2 x (.tup [.str "put", .ref l])) [fa])) x (.put cs) := by
  obtain ⟨h1, h2⟩ := g.notfa hx
  refine ⟨l, ?_, hl.mono (fr_next (msk_mono (same_upd hx)))⟩
  unfold Fr
  rw [if_pos h2, msk_at (by simpa using h1)]
  exact upd_same
end
theorem same_refl {H : Hp} : Same H H := fun _ _ e => e
theorem kdw_ne (a b : Bool) : (!decide (V.str (kdw a) = V.str (kdw b))) = (a != b) := by cases a <;> cases b <;> decide +kernel
def gV : Option Bool → V
  | none => .non
  | some b => .bl b
theorem gV_at {ds : List Bool} {k : Nat} {y : V} (h : (ds.map V.bl ++ [.non])[k]? = some y) : y = gV ds[k]? ∧ k ≤ ds.length := by
  have hk := (List.getElem?_eq_some_iff.mp h).1
  simp at hk
  refine ⟨?_, by omega⟩
  by_cases h2 : k < ds.length
  · rw [List.getElem?_append_left (by simpa using h2), List.getElem?_map] at h
    rw [List.getElem?_eq_getElem h2] at h ⊢
    exact (Option.some.inj h).symm
  · have : k = ds.length := by omega
    subst this
    rw [List.getElem?_append_right (by simp)] at h
    simp at h
    rw [List.getElem?_eq_none (Nat.le_refl _)]
    exact h.symm
section
variable {P : Program} {w : World} {K : PySem.W.Frag} {mg : Str → Option Value} {base : Heap} {c : Cs}
/- normal_rows: 0 rows, 1 puts, 2 drops, 3 found, 4 word, 5 many, 6 chars, 7 is_gone, 8 now -/
theorem sc_normal_rows : FnScope ["rows", "puts", "drops", "found", "word", "many", "chars", "is_gone", "now"] ["rows"] (defScope s_normal_rows) := ⟨rfl, rfl, rfl, by decide +kernel, rfl, by decide +kernel, by decide +kernel⟩
theorem bi_normal_rows : BindsB "normal_rows" "normal_rows" s_normal_rows ["rows"] := fun _ _ _ _ _ _ us hl => match us, hl with | [_], _ => rfl
def spNormalRows : Sp := fun vs H Q _ => ∃ (r : Addr) (rs : List Row), vs = [.ref r] ∧ RowsAt H r rs ∧ before rs ≤ 100000 ∧ (rputs rs).length ≤ 100000 ∧
  ∀ H' a, Same H H' → RowsAt (Fr H H') a (norm (gaps rs)) → Q (.ref a) H'
theorem ok_normal_rows (T : Txt K mg c) (G_gaps_of : GF P w K mg base 1 "gaps_of" ["rows"] spGapsOf) : GF P w K mg base 2 "normal_rows" ["rows"] spNormalRows := by
  refine T.d_normal_rows.gf sc_normal_rows bi_normal_rows (fun vs H Q E h => ?_) (fun f cdv A outer s H vs Q E hr h => ?_)
  · obtain ⟨r, rs, rfl, _⟩ := h
    rfl
  · obtain ⟨r, rs, rfl, hrs, hb, hp, q⟩ := h
    refine ⟨_, (pss_cons (ps_asg (pe_gf G_gaps_of hr (pa_cons (pv 0) pa_nil)) (pg_tup rfl (pgs_cons (pg_name (i := 1) sc_normal_rows.nd rfl (Or.inl rfl)) (pgs_cons (pg_name (i := 2) sc_normal_rows.nd rfl (Or.inl rfl)) pgs_nil))))
      (pss_cons (ps_set (i := 3) sc_normal_rows.nd rfl (Or.inl rfl) (pe_lst pa_nil))
      (pss_cons (ps_par (i := 4) (j := 5) (by rfl) sc_normal_rows.nd rfl rfl (by decide) rfl rfl (pa_cons (pe_globE T.s_KEEP) (pa_cons pe_int pa_nil)) (by rfl))
      (pss_cons (ps_for PassesOwn.never rfl (pi_zip (by rfl) T.z_zip (pa_cons (pv 1) (pa_cons (pe_op op_cat (pv 2) (pe_lst (pa_cons pe_non pa_nil))) pa_nil))) (pg_tup rfl (pgs_cons (pg_name (i := 6) sc_normal_rows.nd rfl (Or.inl rfl)) (pgs_cons (pg_name (i := 7) sc_normal_rows.nd rfl (Or.inl rfl)) pgs_nil)))
      (pss_cons (ps_set (i := 8) sc_normal_rows.nd rfl (Or.inl rfl) (pe_ifExp (pt_truth (pv 7) (fun _ => rfl)) (pe_globE T.s_DROP) (pe_globE T.s_KEEP)))
      (pss_cons (ps_if (PW.pt (pw_and (pt_cmpR op_gt (pv 5) pe_int (nomark _)) (pw_and1 (PW.pt (pw_or (pt_cmpR (op_neNil hr.units0) (pv 6) (pe_lst pa_nil) (nomark _)) (pw_or (pt_cmpR op_ne (pv 8) (pv 4) (nomark _)) (pw_or1 (pt_cmpR op_isN (pv 7) pe_non (nomark _))))))))) (pss_cons (ps_expr (pe_bm PySem.F.plainAttrs_list PySem.F.slot_list_append PySem.F.type_list_append mt_append (pv 3) (pa_cons (pe_tup (pa_cons (pv 4) (pa_cons (pv 5) pa_nil))) pa_nil)))
      (pss_one (ps_set (i := 5) sc_normal_rows.nd rfl (Or.inl rfl) pe_int))) pss_nil)
      (pss_cons (ps_if (pt_cmpR (op_neNil hr.units0) (pv 6) (pe_lst pa_nil) (nomark _)) (pss_one (ps_expr (pe_bm PySem.F.plainAttrs_list PySem.F.slot_list_append PySem.F.type_list_append mt_append (pv 3) (pa_cons (pe_tup (pa_cons (pe_globE T.s_PUT) (pa_cons (pv 6) pa_nil))) pa_nil)))) pss_nil)
      (pss_cons (ps_set (i := 4) sc_normal_rows.nd rfl (Or.inl rfl) (pv 8))
      (pss_one (ps_set (i := 5) sc_normal_rows.nd rfl (Or.inl rfl) (pe_op op_add (pv 5) (pe_callTy call_int1 (by rfl) T.z_int (by decide +kernel) (pa_cons (pe_cmpR op_notN (pv 7) pe_non (nomark _)) pa_nil))))))))))
      (pss_one (ps_ret (pv 3))))))), ?_⟩
    refine ⟨_, rfl, r, rs, rfl, hrs, hb, hp, fun H1 p pa da s1 hpp hps hds => ?_⟩
    refine ⟨p, _, rfl, SqT.of hpp, rfl, _, _, rfl, _, _, rfl, rfl, ?_⟩
    refine ⟨lk 0 (by decide), fun fa hfa => ?_⟩
    refine ⟨_, _, rfl, ?_⟩
    have wf := wf_gaps rs
    have hdl : (gaps rs).ds.length ≤ 100000 := by rw [ds_gaps]; exact hb
    generalize gaps rs = D at *
    refine ⟨_, rfl, _, rfl, lk 1 (by decide), fun na hna => ⟨da, na, D.ds.map V.bl, [.non], rfl, rfl, ?_, upd_same, ?_, fun dz hdz => ?_⟩⟩
    · rw [upd_ne (ne_of_none (H := upd H1 fa (.lst [])) (show upd H1 fa (.lst []) da = some _ from (same_upd hfa) _ _ (fr_same _ _ hds)) hna)]
      exact (same_upd hfa) _ _ (fr_same _ _ hds)
    · rw [List.length_map]
      exact sz _ (by simp; omega)
    · have sA : Same H1 (upd (upd H1 fa (.lst [])) na (.lst [.non])) := (same_upd hfa).trans (same_upd hna)
      have s2 : Same H1 (upd (upd (upd H1 fa (.lst [])) na (.lst [.non])) dz (.lst (D.ds.map V.bl ++ [.non]))) := sA.trans (same_upd hdz)
      obtain ⟨ls, hpa, hls⟩ := hps
      have nfn : fa ≠ na := ne_of_none (H := upd H1 fa (.lst [])) upd_same hna
      have nfd : fa ≠ dz := ne_of_none (H := upd (upd H1 fa (.lst [])) na (.lst [.non])) (by rw [upd_ne nfn]; exact upd_same) hdz
      have g0 : FI H H1 fa (upd (upd (upd H1 fa (.lst [])) na (.lst [.non])) dz (.lst (D.ds.map V.bl ++ [.non]))) [] := ((FI.start s1 hfa).same (same_upd hna)).same (same_upd hdz)
      have hdz0 : (upd (upd (upd H1 fa (.lst [])) na (.lst [.non])) dz (.lst (D.ds.map V.bl ++ [.non]))) dz = some (.lst (D.ds.map V.bl ++ [.non])) := upd_same
      generalize upd (upd (upd H1 fa (.lst [])) na (.lst [.non])) dz (.lst (D.ds.map V.bl ++ [.non])) = H0 at *
      have wl := wf.ln
      have pl := pr_len hls
      have hpa1 := fr_same _ _ hpa
      refine ⟨pa, dz, ls.map V.ref, D.ds.map V.bl ++ [.non], rfl, SqL.of (s2 _ _ hpa1), SqL.of hdz0,
        RZ.for_zipL (K := K) (a := pa) (b := dz) (xs := ls.map V.ref) (ys := D.ds.map V.bl ++ [.non]) (by simp; omega) (fun i σ H2 => ∃ v6 v7 v8, σ = [some (.ref r), some (.ref pa), some (.ref da), some (.ref fa), some (.str (kdw (nst D i).w)), some (.int (nst D i).m), v6, v7, v8] ∧ FI H H1 fa H2 (nst D i).f ∧ H2 dz = some (.lst (D.ds.map V.bl ++ [.non])) ∧ (nst D i).m ≤ i) ⟨none, none, none, rfl, g0, hdz0, Nat.le_refl _⟩ ?_ ?_ ?_⟩
      · rintro i σ H2 ⟨v6, v7, v8, rfl, g, hz, _⟩
        exact ⟨SqL.of (g.s _ _ hpa1), SqL.of hz⟩
      · rintro i x y T0 σ H2 hx hy ⟨v6, v7, v8, rfl, g, hz, hm⟩ hT
        obtain ⟨l, hl, rfl⟩ := lmap_at hx
        obtain ⟨rfl, hi⟩ := gV_at hy
        have hls0 := (pr_at2 hls hl)
        obtain ⟨cs, hcs, hL⟩ := hls0
        have ecs : D.ps.getD i [] = cs := by rw [List.getD_eq_getElem?_getD, hcs]; rfl
        have hnst : nst D (i + 1) = nstep (nst D i) cs D.ds[i]? := by rw [← ecs]; rfl
        rw [hnst]
        have hlen := (nst_len D i).1
        generalize nst D i = S at *
        generalize D.ds[i]? = gi at *
        refine ⟨T0, _, rfl, SqT.of upd_same, rfl, _, _, rfl, _, _, rfl, rfl, ?_⟩
        have g1 := g.same (same_upd (o := .tup [.ref l, gV gi]) hT)
        have hz1 := (same_upd (o := .tup [.ref l, gV gi]) hT) _ _ hz
        generalize upd H2 T0 (.tup [.ref l, gV gi]) = H3 at *
        refine seq_join (fun σ H4 => σ = [some (.ref r), some (.ref pa), some (.ref da), some (.ref fa), some (.str (kdw S.w)), some (.int S.m), some (.ref l), some (gV gi), some (.str (kdw (gi == some true)))] ∧ H4 = H3) (fun N hN => ⟨_, rfl, gi == some true, ?_, ?_⟩) ?_
        · cases gi with
          | none => rfl
          | some b => cases b <;> rfl
        · cases hb : (gi == some true) with
          | true =>
            rw [hb] at hN
            exact hN _ _ ⟨rfl, rfl⟩
          | false =>
            rw [hb] at hN
            exact hN _ _ ⟨rfl, rfl⟩
        rintro σ H4 ⟨rfl, rfl⟩
        clear hx hy
        -- a run of keeps or drops ends
        refine seq_join (fun σ H5 => σ = [some (.ref r), some (.ref pa), some (.ref da), some (.ref fa), some (.str (kdw S.w)), some (.int (nzm S cs gi)), some (.ref l), some (gV gi), some (.str (kdw (gi == some true)))] ∧ FI H H1 fa H5 (nzf S cs gi) ∧ H5 dz = some (.lst (D.ds.map V.bl ++ [.non]))) (fun N hN => ?_) ?_
        · refine ifS_cps (fun b H5 => Same H4 H5 ∧ b = flush S cs gi) (fun Q0 hQ => ?_) ?_ ?_
          · refine ⟨_, rfl, _, _, rfl, rfl, _, rfl, ?_⟩
            have hm0 : decide ((0 : Int) < (S.m : Int)) = decide (0 < S.m) := decide_eq_decide.mpr (by omega)
            rw [hm0]
            unfold flush at hQ
            cases hmm : decide (0 < S.m) with
            | false =>
              rw [hmm] at hQ
              exact iteF (hQ _ _ ⟨same_refl, rfl⟩)
            | true =>
              rw [hmm] at hQ
              refine iteT ⟨_, rfl, lk 0 (by decide), fun e he => ⟨l, e, cs.map V.int, rfl, rfl, SqL.of ((same_upd he) _ _ (g1.s _ _ (fr_same _ _ hL))), SqL.of upd_same, _, rfl, ?_⟩⟩
              have sE : Same H4 (upd H4 e (.lst [])) := same_upd he
              rw [show (cs.map V.int).isEmpty = cs.isEmpty by cases cs <;> rfl]
              cases hce : cs.isEmpty with
              | false =>
                rw [hce] at hQ
                exact iteT (hQ _ _ ⟨sE, rfl⟩)
              | true =>
                rw [hce] at hQ
                refine iteF ⟨_, rfl, _, rfl, rfl, _, rfl, ?_⟩
                rw [kdw_ne]
                cases hw : ((gi == some true) != S.w) with
                | true =>
                  rw [hw] at hQ
                  exact iteT (hQ _ _ ⟨sE, rfl⟩)
                | false =>
                  rw [hw] at hQ
                  refine iteF ⟨_, rfl, rfl, _, rfl, ?_⟩
                  refine hQ _ _ ⟨sE, ?_⟩
                  cases gi with
                  | none => rfl
                  | some b => cases b <;> rfl
          · rintro H5 ⟨s5, hf⟩
            obtain ⟨xs, hxs, hxl⟩ := (g1.same s5).lst
            refine ⟨_, rfl, .inl ⟨rfl, _, SqL.of hxs⟩, _, rfl, _, rfl, lk 2 (by decide), fun t ht => ⟨fa, xs, _, rfl, rfl, ?_, szlt _ (by omega), ?_⟩⟩
            · rw [upd_ne (ne_of_none hxs ht)]
              exact hxs
            have g2 := ((g1.same s5).same (same_upd (o := .tup [.str (kdw S.w), .int S.m]) ht)).push ((same_upd ht) _ _ hxs) ((g1.same s5).num ht S.w S.m)
            refine hN _ _ ⟨?_, ?_, ?_⟩
            · unfold nzm
              rw [← hf]
              rfl
            · unfold nzf
              rw [← hf]
              exact g2
            · have hz5 := (same_upd (o := .tup [.str (kdw S.w), .int S.m]) ht) _ _ (s5 _ _ hz1)
              rw [upd_ne nfd.symm]
              exact hz5
          · rintro H5 ⟨s5, hf⟩
            refine hN _ _ ⟨?_, ?_, s5 _ _ hz1⟩
            · unfold nzm
              rw [← hf]
              rfl
            · unfold nzf
              rw [← hf]
              exact g1.same s5
        rintro σ H5 ⟨rfl, g5, hz5⟩
        refine seq_join (fun σ H6 => σ = [some (.ref r), some (.ref pa), some (.ref da), some (.ref fa), some (.str (kdw S.w)), some (.int (nzm S cs gi)), some (.ref l), some (gV gi), some (.str (kdw (gi == some true)))] ∧ FI H H1 fa H6 (nstep S cs gi).f ∧ H6 dz = some (.lst (D.ds.map V.bl ++ [.non]))) (fun N hN => ?_) ?_
        · refine ⟨_, rfl, lk 0 (by decide), fun e he => ⟨l, e, cs.map V.int, rfl, rfl, SqL.of ((same_upd he) _ _ (g5.s _ _ (fr_same _ _ hL))), SqL.of upd_same, _, rfl, ?_⟩⟩
          have sE : Same H5 (upd H5 e (.lst [])) := same_upd he
          rw [show (cs.map V.int).isEmpty = cs.isEmpty by cases cs <;> rfl]
          have g6 := g5.same sE
          have hz6 := sE _ _ hz5
          generalize upd H5 e (.lst []) = H6 at *
          have hst : (nstep S cs gi).f = if cs.isEmpty then nzf S cs gi else nzf S cs gi ++ [.put cs] := rfl
          cases hce : cs.isEmpty with
          | true =>
            rw [hce] at hst
            refine iteF (hN _ _ ⟨rfl, ?_, hz6⟩)
            rw [hst]
            exact g6
          | false =>
            rw [hce] at hst
            obtain ⟨xs, hxs, hxl⟩ := g6.lst
            have hxb : (nzf S cs gi).length ≤ S.f.length + 1 := by
              unfold nzf
              split
              · rw [List.length_append, List.length_singleton]
                omega
              · omega
            refine iteT ⟨_, rfl, .inl ⟨rfl, _, SqL.of hxs⟩, _, rfl, lk 2 (by decide), fun t ht => ⟨fa, xs, _, rfl, rfl, ?_, szlt _ (by omega), ?_⟩⟩
            · rw [upd_ne (ne_of_none hxs ht)]
              exact hxs
            refine hN _ _ ⟨rfl, ?_, ?_⟩
            · rw [hst]
              exact (g6.same (same_upd (o := .tup [.str "put", .ref l]) ht)).push ((same_upd ht) _ _ hxs) (g6.putr ht (hL.mono g6.frb))
            · rw [upd_ne nfd.symm]
              exact (same_upd ht) _ _ hz6
        rintro σ H6 ⟨rfl, g6, hz6⟩
        refine ⟨_, rfl, _, rfl, _, rfl, rfl, .inr ⟨_, rfl, _, _, rfl, rfl, ?_⟩⟩
        refine ⟨some (.ref l), some (gV gi), some (.str (kdw (gi == some true))), ?_, g6, hz6, ?_⟩
        · have e1 : (nstep S cs gi).w = (gi == some true) := rfl
          have e2 : ((nstep S cs gi).m : Int) = (nzm S cs gi : Int) + (if (!decide (gV gi = V.non)) = true then 1 else 0) := by
            show (((nzm S cs gi + if gi.isSome then 1 else 0 : Nat)) : Int) = _
            cases gi with
            | none => simp [gV]
            | some b => simp [gV]
          rw [e1, e2]
          rfl
        · show nzm S cs gi + (if gi.isSome then 1 else 0) ≤ i + 1
          unfold nzm
          split <;> split <;> omega
      · rintro σ H2 ⟨v6, v7, v8, rfl, g, hz, _⟩
        refine ⟨_, rfl, q _ fa (s1.trans g.s) ?_⟩
        have := g.done
        rw [List.length_map, pl, wl] at this
        exact this
end
end Tc
/-! # The walks: a delta's making -/
namespace Tc
open PySem PySem.Spec PyProof.Rows L2
theorem norm_ds {D : Dl} (w : D.Wf) : before (norm D) = D.ds.length := by rw [← ds_gaps, gaps_norm w]
theorem norm_ps {D : Dl} (w : D.Wf) : rputs (norm D) = D.ps.flatten := by rw [← puts_gaps, gaps_norm w]
theorem upd_upd {H : Hp} {x : Addr} {o o' : HO} : upd (upd H x o) x o' = upd H x o' := by
  funext b
  by_cases h : b = x
  · rw [h, upd_same, upd_same]
  · rw [upd_ne h, upd_ne h, upd_ne h]
theorem filter_both : ∀ l : List Bool, (l.filter id).length + (l.filter (!·)).length = l.length
  | [] => rfl
  | true :: r => by
    have := filter_both r
    simp [List.filter_cons] at this ⊢
    omega
  | false :: r => by
    have := filter_both r
    simp [List.filter_cons] at this ⊢
    omega
theorem putsLen_eq (D : Dl) : putsLen D = D.ps.flatten.length := by
  unfold putsLen
  rw [List.length_flatten]
section
variable {P : Program} {w : World} {K : PySem.W.Frag} {mg : Str → Option Value} {base : Heap} {c : Cs}
/- OwnRows.__init__: 0 self, 1 rows -/
theorem sc_OwnRows_init : FnScope ["self", "rows"] ["self", "rows"] (defScope s_OwnRows_init) := ⟨rfl, rfl, rfl, by decide +kernel, rfl, by decide +kernel, by decide +kernel⟩
theorem bi_OwnRows_init : BindsB "__init__" "OwnRows.__init__" s_OwnRows_init ["self", "rows"] := fun _ _ _ _ _ _ us hl => match us, hl with | [_, _], _ => rfl
def spOwnInit (c : Cs) : Sp := fun vs H Q _ => ∃ (x dx r : Addr) (rs : List Row), vs = [.ref x, .ref r] ∧ H x = some (.ins c.ow dx []) ∧ RowsAt H r rs ∧ before rs ≤ 100000 ∧ (rputs rs).length ≤ 100000 ∧
  ∀ H' a, (∀ b o, H b = some o → b ≠ x → H' b = some o) → H' x = some (.ins c.ow dx [("held", .ref a)]) → RowsAt (Fr H H') a (norm (gaps rs)) → Q .non H'
theorem ok_OwnRows_init (T : Txt K mg c) (G_normal_rows : GF P w K mg base 2 "normal_rows" ["rows"] spNormalRows) : KF P w K mg base 3 "OwnRows" c.ow ["self", "rows"] (spOwnInit c) := by
  refine T.d_OwnRows_init.kf sc_OwnRows_init bi_OwnRows_init (fun vs H Q E h => ?_) (fun f cdv A outer s H vs Q E hr h => ?_)
  · obtain ⟨x, dx, r, rs, rfl, _⟩ := h
    rfl
  · obtain ⟨x, dx, r, rs, rfl, hx, hrs, hb, hp, q⟩ := h
    refine ⟨_, (pss_one (ps_fld (pv 0) (pe_gf G_normal_rows hr (pa_cons (pv 1) pa_nil)) rfl)), ?_⟩
    refine ⟨_, rfl, r, rs, rfl, hrs, hb, hp, fun H1 a s1 hra => ?_⟩
    refine ⟨_, rfl, x, c.ow, dx, [], rfl, s1 _ _ hx, T.cl_ow, T.n_ow_held, by show 0 < 1000; decide, ?_⟩
    refine q _ a (fun b o e hb => ?_) upd_same ?_
    · rw [upd_ne hb]
      exact s1 _ _ e
    · refine hra.mono fun b o e => ?_
      have hn := fr_new e
      unfold Fr at e ⊢
      rw [if_pos hn] at e ⊢
      rw [upd_ne fun z => by rw [z, hx] at hn; cases hn]
      exact e
/- Delta.__init__: 0 self, 1 rows, 2 kept, 3 dropped, 4 is_gone, 5 chars -/
theorem sc_Delta_init : FnScope ["self", "rows", "kept", "dropped", "is_gone", "chars"] ["self", "rows"] (defScope s_Delta_init) := ⟨rfl, rfl, rfl, by decide +kernel, rfl, by decide +kernel, by decide +kernel⟩
theorem bi_Delta_init : BindsB "__init__" "Delta.__init__" s_Delta_init ["self", "rows"] := fun _ _ _ _ _ _ us hl => match us, hl with | [_, _], _ => rfl
def spDeltaInit (c : Cs) : Sp := fun vs H Q _ => ∃ (x dx o od a : Addr) (rs : List Row), vs = [.ref x, .ref o] ∧ H x = some (.ins c.de dx []) ∧ H o = some (.ins c.ow od [("held", .ref a)]) ∧ RowsAt (Msk H [x]) a rs ∧ before rs ≤ 100000 ∧ (rputs rs).length ≤ 100000 ∧
  ∀ H' pa da, (∀ b o, H b = some o → b ≠ x → H' b = some o) → H' x = some (.ins c.de dx (deF a pa da (gaps rs).ds.length (aft (gaps rs)))) → LLAt (Fr H H') pa (gaps rs).ps → Fr H H' da = some (.lst ((gaps rs).ds.map V.bl)) → Q .non H'
theorem ok_Delta_init (T : Txt K mg c) (G_gaps_of : GF P w K mg base 1 "gaps_of" ["rows"] spGapsOf) : KF P w K mg base 2 "Delta" c.de ["self", "rows"] (spDeltaInit c) := by
  refine T.d_Delta_init.kf sc_Delta_init bi_Delta_init (fun vs H Q E h => ?_) (fun f cdv A outer s H vs Q E hr h => ?_)
  · obtain ⟨x, dx, o, od, a, rs, rfl, _⟩ := h
    rfl
  · obtain ⟨x, dx, o, od, a, rs, rfl, hx, ho, hrs, hb, hp, q⟩ := h
    refine ⟨_, (pss_cons (ps_set (i := 2) sc_Delta_init.nd rfl (Or.inl rfl) (pe_ifExp (pt_val (pe_callB call_isi (by rfl) T.z_isinstance (by decide +kernel) (pa_cons (pv 1) (pa_cons (pe_globE T.g_ow) pa_nil)))) (pv 1) pe_never))
      (pss_cons (ps_fld (pv 0) (pe_fld (pv 2) rfl) rfl)
      (pss_cons (ps_asg (pe_gf G_gaps_of hr (pa_cons (pe_fld (pv 0) rfl) pa_nil)) (pg_tup rfl (pgs_cons (pg_fld (pv 0)) (pgs_cons (pg_fld (pv 0)) pgs_nil))))
      (pss_cons (ps_fld (pv 0) (pe_callB call_len_seq (by rfl) T.z_len (by decide +kernel) (pa_cons (pe_fld (pv 0) rfl) pa_nil)) rfl)
      (pss_cons (ps_set (i := 3) sc_Delta_init.nd rfl (Or.inl rfl) (pe_callB (cr_sumN K) (by rfl) T.z_sum (by decide +kernel) (pa_cons (pe_lc (own := [("is_gone", 4)]) (g := gName 4) rfl sc_Delta_init.nd (pi_listN K (pe_fld (pv 0) rfl)) (blkOk_by (own := [("is_gone", 4)]) (N := ["self", "rows", "kept", "dropped", "is_gone", "chars"]) (sc := defScope s_Delta_init) (by decide +kernel)) (fun _ _ _ _ _ => pg_name (i := 4) sc_Delta_init.nd rfl (by first | exact Or.inl rfl | exact Or.inr rfl)) (fun _ _ _ _ _ => (pts_one (pt_val (pv 4)))) (fun _ _ _ _ _ => pe_int)) pa_nil)))
      (pss_one (ps_fld (pv 0) (pe_op op_add (pe_op op_sub (pe_fld (pv 0) rfl) (pv 3)) (pe_callB (cr_sumN K) (by rfl) T.z_sum (by decide +kernel) (pa_cons (pe_lc (own := [("chars", 5)]) (g := gName 5) rfl sc_Delta_init.nd (pi_listN K (pe_fld (pv 0) rfl)) (blkOk_by (own := [("chars", 5)]) (N := ["self", "rows", "kept", "dropped", "is_gone", "chars"]) (sc := defScope s_Delta_init) (by decide +kernel)) (fun _ _ _ _ _ => pg_name (i := 5) sc_Delta_init.nd rfl (by first | exact Or.inl rfl | exact Or.inr rfl)) (fun _ _ _ _ _ => pts_nil) (fun _ _ _ _ _ => (pe_callB (call_len_seqN K) (by rfl) T.z_len (by decide +kernel) (pa_cons (pv 5) pa_nil)))) pa_nil))) rfl))))))), ?_⟩
    refine ⟨_, rfl, _, _, _, _, true, rfl, .own _, .base (.ins ho T.cl_ow T.k_ow.ha T.k_ow.hn T.k_ow.ht T.k_ow.hm), kit_same, true, rfl, iteT ?_⟩
    have nox : o ≠ x := fun z => by
      rw [z, hx] at ho
      injection ho with z
      injection z with _ _ z3
      cases z3
    refine ⟨_, rfl, ?_⟩
    refine ⟨_, rfl, o, c.ow, od, _, .ref a, rfl, ho, T.cl_ow, T.n_ow_held, rfl, ?_⟩
    refine ⟨_, rfl, x, c.de, dx, [], rfl, hx, T.cl_de, T.n_de_own_rows, by show 0 < 1000; decide, ?_⟩
    have s1 : Same (Msk H [x]) (upd H x (.ins c.de dx [("own_rows", .ref a)])) := by
      have e : Same (Msk (upd H x (.ins c.de dx [("own_rows", .ref a)])) [x]) (upd H x (.ins c.de dx [("own_rows", .ref a)])) := msk_same
      rwa [msk_mut (by simp)] at e
    have hrs1 := hrs.mono s1
    refine ⟨_, rfl, x, c.de, dx, _, _, rfl, upd_same, T.cl_de, T.n_de_own_rows, rfl, a, rs, rfl, hrs1, hb, hp, fun H1 p pa da s2 hpp hps hds => ?_⟩
    have wf := wf_gaps rs
    have hdl : (gaps rs).ds.length ≤ 100000 := by rw [ds_gaps]; exact hb
    have hpl : (gaps rs).ps.flatten.length ≤ 100000 := by rw [puts_gaps]; exact hp
    generalize gaps rs = D at *
    have wl := wf.ln
    have hx1 : H1 x = some (.ins c.de dx [("own_rows", .ref a)]) := s2 _ _ upd_same
    have sx : Same (Msk H [x]) (Msk H1 [x]) := by
      have e : Same (Msk (upd H x (.ins c.de dx [("own_rows", .ref a)])) [x]) (Msk H1 [x]) := msk_mono s2
      rwa [msk_mut (by simp)] at e
    -- what is new is not x
    have sf : Same (Fr (upd H x (.ins c.de dx [("own_rows", .ref a)])) H1) (Fr H (Msk H1 [x])) := fun b u e => by
      have hn := fr_new e
      have nb : b ≠ x := fun z => by rw [z, upd_same] at hn; cases hn
      rw [upd_ne nb] at hn
      unfold Fr
      rw [if_pos hn, msk_at (by simpa using nb)]
      exact fr_same b u e
    have hps1 := hps.mono sf
    have hds1 := sf _ _ hds
    have hd0 : H1 da = some (.lst (D.ds.map V.bl)) := fr_same _ _ hds
    have npx : p ≠ x := fun z => by rw [z, hx1] at hpp; cases hpp
    have ndx : da ≠ x := fun z => by rw [z, hx1] at hd0; cases hd0
    refine ⟨p, _, rfl, SqT.of hpp, rfl, _, _, rfl, ?_⟩
    refine ⟨_, rfl, x, c.de, dx, _, rfl, hx1, T.cl_de, T.n_de_puts, by show 1 < 1000; decide, ?_⟩
    refine ⟨_, _, rfl, _, rfl, x, c.de, dx, _, rfl, upd_same, T.cl_de, T.n_de_drops, by show 2 < 1000; decide, rfl, ?_⟩
    rw [upd_upd]
    have hd2 : ∀ fs, upd H1 x (.ins c.de dx fs) da = some (.lst (D.ds.map V.bl)) := fun fs => by rw [upd_ne ndx]; exact hd0
    refine ⟨_, rfl, x, c.de, dx, _, .ref da, rfl, upd_same, T.cl_de, T.n_de_drops, rfl, da, _, rfl, .inl (SqL.of (hd2 _)), ?_⟩
    refine ⟨_, rfl, x, c.de, dx, _, rfl, upd_same, T.cl_de, T.n_de_own_before, by show 3 < 1000; decide, ?_⟩
    rw [upd_upd]
    -- how many are dropped
    have hX := hd2 (putF "own_before" (.int ((D.ds.map V.bl).length : Nat)) [("own_rows", .ref a), ("puts", .ref pa), ("drops", .ref da)])
    refine ⟨_, rfl, x, c.de, dx, _, .ref da, rfl, upd_same, T.cl_de, T.n_de_drops, rfl, da, rfl, ⟨_, SqL.of (hd2 _)⟩, fun L hL => ?_⟩
    refine lc_list (K := K) (a := da) (xs := D.ds.map V.bl) (fun i H3 => Same (upd H1 x (.ins c.de dx (putF "own_before" (.int ((D.ds.map V.bl).length : Nat)) [("own_rows", .ref a), ("puts", .ref pa), ("drops", .ref da)]))) H3 ∧ ∃ ns : List Int, H3 L = some (.lst (ns.map V.int)) ∧ ns.sum = (((D.ds.take i).filter id).length : Nat) ∧ ns.length ≤ i)
      ⟨same_upd hL, [], upd_same, rfl, Nat.le_refl _⟩ (fun i H3 _ z => SqL.of (z.1 _ _ hX)) ?_ ?_
    · rintro i y H3 hy ⟨s3, ns, h1, h2, h3⟩
      obtain ⟨b, hb, rfl⟩ := lmap_at hy
      have hi := (List.getElem?_eq_some_iff.mp hb).1
      refine ⟨rfl, _, rfl, b, rfl, ?_⟩
      cases b with
      | false =>
        refine iteF ⟨s3, ns, h1, ?_, by omega⟩
        rw [h2, take_snoc hb, List.filter_append]
        simp
      | true =>
        refine iteT ⟨_, h1, szlt _ (by rw [List.length_map]; omega), same_mut s3 hL, ns ++ [1], ?_, ?_, ?_⟩
        · rw [upd_same, List.map_append]
          rfl
        · rw [List.sum_append, h2, take_snoc hb, List.filter_append]
          simp
        · rw [List.length_append, List.length_singleton]
          omega
    rintro H3 ⟨s3, ns, h1, h2, h3⟩
    rw [List.length_map, List.take_length] at h2
    refine ⟨L, ns, rfl, SqL.of h1, ?_⟩
    rw [h2]
    have hx3 := s3 _ _ upd_same
    obtain ⟨ls, hpa, hls⟩ := hps1
    have hpa3 : H3 pa = some (.lst (ls.map V.ref)) := by
      have e := msk_same _ _ (fr_same _ _ hpa)
      refine s3 _ _ ?_
      rw [upd_ne fun z => by rw [z, hx1] at e; cases e]
      exact e
    have hls3 : Paired (LAt H3) ls D.ps := pr_imp (fun b cs z => by
      have e : H1 b = _ := msk_same _ _ (fr_same _ _ z)
      refine s3 _ _ ?_
      rw [upd_ne fun z => by rw [z, hx1] at e; cases e]
      exact e) hls
    refine ⟨_, rfl, x, c.de, dx, _, _, rfl, hx3, T.cl_de, T.n_de_own_before, rfl, _, rfl, _, _, rfl, rfl, ?_⟩
    refine ⟨_, rfl, x, c.de, dx, _, .ref pa, rfl, hx3, T.cl_de, T.n_de_puts, rfl, pa, rfl, ⟨_, SqL.of hpa3⟩, fun L2 hL2 => ?_⟩
    refine lc_list (K := K) (a := pa) (xs := ls.map V.ref) (fun i H4 => Same H3 H4 ∧ ∃ ns : List Int, H4 L2 = some (.lst (ns.map V.int)) ∧ ns.sum = (((D.ps.take i).map List.length).sum : Nat) ∧ ns.length = i)
      ⟨same_upd hL2, [], upd_same, rfl, rfl⟩ (fun i H4 _ z => SqL.of (z.1 _ _ hpa3)) ?_ ?_
    · rintro i y H4 hy ⟨s4, ns, h1, h2, h3⟩
      obtain ⟨l, hl, rfl⟩ := lmap_at hy
      obtain ⟨cs, hcs, hL⟩ := pr_at2 hls3 hl
      have hi := (List.getElem?_eq_some_iff.mp hcs).1
      refine ⟨rfl, yesT ?_⟩
      refine ⟨_, rfl, l, _, rfl, .inl (SqL.of (hL.mono s4)), _, h1, szlt _ (by rw [List.length_map]; omega), same_mut s4 hL2, ns ++ [(cs.length : Int)], ?_, ?_, ?_⟩
      · rw [upd_same, List.map_append, List.length_map]
        rfl
      · rw [List.sum_append, h2, take_snoc hcs, List.map_append, List.sum_append]
        simp
      · rw [List.length_append, List.length_singleton, h3]
    rintro H4 ⟨s4, ns2, h4, h5, h6⟩
    rw [List.length_map, pr_len hls, List.take_length] at h5
    refine ⟨L2, ns2, rfl, SqL.of h4, ?_⟩
    rw [h5]
    refine ⟨_, _, rfl, rfl, ?_⟩
    refine ⟨_, rfl, x, c.de, dx, _, rfl, s4 _ _ hx3, T.cl_de, T.n_de_own_after, by show 4 < 1000; decide, ?_⟩
    have ev : ((D.ds.map V.bl).length : Int) - (((D.ds.filter id).length : Nat) : Int) + (((D.ps.map List.length).sum : Nat) : Int) = (aft D : Nat) := by
      have e := filter_both D.ds
      unfold aft putsLen
      rw [List.length_map]
      omega
    refine q _ pa da (fun b u e hb => ?_) ?_ ?_ ?_
    · rw [upd_ne hb]
      refine s4 _ _ (s3 _ _ ?_)
      rw [upd_ne hb]
      exact msk_same _ _ (sx _ _ (by rw [msk_at (by simpa using hb)]; exact e))
    · rw [upd_same]
      show some (HO.ins c.de dx [("own_rows", V.ref a), ("puts", V.ref pa), ("drops", V.ref da), ("own_before", V.int (D.ds.map V.bl).length), ("own_after", V.int _)]) = _
      rw [ev, List.length_map]
      rfl
    all_goals
      have sE : ∀ u, Same (Fr H (Msk H1 [x])) (Fr H (upd H4 x u)) := fun u => fr_next fun b o e => by
        have nb : b ≠ x := fun z => by
          rw [z, msk_in (by simp)] at e
          cases e
        rw [upd_ne nb]
        refine s4 _ _ (s3 _ _ ?_)
        rw [upd_ne nb]
        exact msk_same _ _ e
    · exact ⟨ls, sE _ _ _ hpa, pr_imp (fun _ _ z => z.mono (sE _)) hls⟩
    · exact sE _ _ _ hds1
/-! ### delta_of, need_delta and the short methods -/
/- delta_of: 0 rows -/
theorem sc_delta_of : FnScope ["rows"] ["rows"] (defScope s_delta_of) := ⟨rfl, rfl, rfl, by decide +kernel, rfl, by decide +kernel, by decide +kernel⟩
theorem bi_delta_of : BindsB "delta_of" "delta_of" s_delta_of ["rows"] := fun _ _ _ _ _ _ us hl => match us, hl with | [_], _ => rfl
def spDeltaOf (c : Cs) : Sp := fun vs H Q _ => ∃ (r : Addr) (rs : List Row), vs = [.ref r] ∧ RowsAt H r rs ∧ before rs ≤ 100000 ∧ (rputs rs).length ≤ 100000 ∧
  ∀ H' p, Same H H' → DelAt c (Fr H H') p (gaps rs) → Q (.ref p) H'
theorem ok_delta_of (T : Txt K mg c) (G_OwnRows_init : KF P w K mg base 3 "OwnRows" c.ow ["self", "rows"] (spOwnInit c)) (G_Delta_init : KF P w K mg base 2 "Delta" c.de ["self", "rows"] (spDeltaInit c)) : GF P w K mg base 5 "delta_of" ["rows"] (spDeltaOf c) := by
  refine T.d_delta_of.gf sc_delta_of bi_delta_of (fun vs H Q E h => ?_) (fun f cdv A outer s H vs Q E hr h => ?_)
  · obtain ⟨r, rs, rfl, _⟩ := h
    rfl
  · obtain ⟨r, rs, rfl, hrs, hb, hp, q⟩ := h
    refine ⟨_, (pss_one (ps_ret (pe_kf G_Delta_init hr (pa_cons (pe_kf G_OwnRows_init hr (pa_cons (pv 0) pa_nil)) pa_nil)))), ?_⟩
    refine ⟨_, rfl, fun o od no nod neo => ?_⟩
    have s1 : Same H (upd (upd H od (.own o)) o (.ins c.ow od [])) := fun b u e => by
      rw [upd_ne (ne_of_none e no), upd_ne (ne_of_none e nod)]
      exact e
    refine ⟨o, od, r, rs, rfl, upd_same, hrs.mono s1, hb, hp, fun H1 a k1 ho ha => ⟨rfl, ?_⟩⟩
    have s2 : Same H H1 := fun b u e => k1 b u (s1 _ _ e) (ne_of_none e no)
    have wf := wf_gaps rs
    have ha2 : RowsAt (Fr H H1) a (norm (gaps rs)) := ha.mono (fr_wide (dom_same s1))
    intro x dx nx ndx nex
    have s3 : Same H1 (upd (upd H1 dx (.own x)) x (.ins c.de dx [])) := fun b u e => by
      rw [upd_ne (ne_of_none e nx), upd_ne (ne_of_none e ndx)]
      exact e
    have hg := gaps_norm wf
    refine ⟨x, dx, o, od, a, norm (gaps rs), rfl, upd_same, s3 _ _ ho, (ha2.mono fr_same).mono (same_of_msk (by simpa using nx) s3), ?_, ?_, fun H2 pa da k2 hx hps hds => ⟨rfl, ?_⟩⟩
    · rw [norm_ds wf, ds_gaps]
      exact hb
    · rw [norm_ps wf, puts_gaps]
      exact hp
    rw [hg] at hx hps hds
    have s4 : Same H1 H2 := fun b u e => k2 b u (s3 _ _ e) (ne_of_none e nx)
    refine q H2 x (s2.trans s4) ⟨dx, a, pa, da, norm (gaps rs), ?_, (ha2.mono (fr_next s4)), hg, norm_len _, hps.mono (fr_wide (dom_same (s2.trans s3))), fr_wide (dom_same (s2.trans s3)) _ _ hds⟩
    unfold Fr
    rw [if_pos (s2.free nx)]
    exact hx
/- need_delta: 0 value -/
theorem sc_need_delta : FnScope ["value"] ["value"] (defScope s_need_delta) := ⟨rfl, rfl, rfl, by decide +kernel, rfl, by decide +kernel, by decide +kernel⟩
theorem bi_need_delta : BindsB "need_delta" "need_delta" s_need_delta ["value"] := fun _ _ _ _ _ _ us hl => match us, hl with | [_], _ => rfl
def spNeedDelta (c : Cs) : Sp := fun vs H Q _ => ∃ (p : Addr) (D : Dl), vs = [.ref p] ∧ DelAt c H p D ∧ Q .non H
theorem ok_need_delta (T : Txt K mg c) : GF P w K mg base 1 "need_delta" ["value"] (spNeedDelta c) := by
  refine T.d_need_delta.gf sc_need_delta bi_need_delta (fun vs H Q E h => ?_) (fun f cdv A outer s H vs Q E hr h => ?_)
  · obtain ⟨p, D, rfl, _⟩ := h
    rfl
  · obtain ⟨p, D, rfl, ⟨dx, r, pa, d, rs, hp, _⟩, q⟩ := h
    refine ⟨_, (pss_one (ps_if (pt_not (pt_val (pe_callB call_isi (by rfl) T.z_isinstance (by decide +kernel) (pa_cons (pv 0) (pa_cons (pe_globE T.g_de) pa_nil))))) (pss_one ps_never) pss_nil)), ?_⟩
    exact ⟨_, rfl, _, _, _, _, true, rfl, .own _, .base (.ins hp T.cl_de T.k_de.ha T.k_de.hn T.k_de.ht T.k_de.hm), kit_same, true, rfl, iteF q⟩
/- Delta.length_before: 0 self -/
theorem sc_Delta_length_before : FnScope ["self"] ["self"] (defScope s_Delta_length_before) := ⟨rfl, rfl, rfl, by decide +kernel, rfl, by decide +kernel, by decide +kernel⟩
theorem bi_Delta_length_before : BindsB "length_before" "Delta.length_before" s_Delta_length_before ["self"] := fun _ _ _ _ _ _ us hl => match us, hl with | [_], _ => rfl
def spDelBefore (c : Cs) : Sp := fun vs H Q _ => ∃ (p : Addr) (D : Dl), vs = [.ref p] ∧ DelAt c H p D ∧ Q (.int D.ds.length) H
theorem ok_Delta_length_before (T : Txt K mg c) : PF P w K mg base 1 c.de "length_before" (spDelBefore c) := by
  refine T.d_Delta_length_before.pf sc_Delta_length_before bi_Delta_length_before (fun vs H Q E h => ?_) (fun f cdv A outer s H vs Q E hr h => ?_)
  · obtain ⟨p, D, rfl, _⟩ := h
    rfl
  · obtain ⟨p, D, rfl, ⟨dx, r, pa, d, rs, hp, _⟩, q⟩ := h
    refine ⟨_, (pss_one (ps_ret (pe_fld (pv 0) rfl))), ?_⟩
    exact ⟨_, rfl, p, c.de, dx, _, _, rfl, hp, T.cl_de, T.n_de_own_before, rfl, q⟩
/- Delta.need_fit: 0 self, 1 text -/
theorem sc_Delta_need_fit : FnScope ["self", "text"] ["self", "text"] (defScope s_Delta_need_fit) := ⟨rfl, rfl, rfl, by decide +kernel, rfl, by decide +kernel, by decide +kernel⟩
theorem bi_Delta_need_fit : BindsB "need_fit" "Delta.need_fit" s_Delta_need_fit ["self", "text"] := fun _ _ _ _ _ _ us hl => match us, hl with | [_, _], _ => rfl
def spNeedFit (c : Cs) : Sp := fun vs H Q _ => ∃ (p x : Addr) (D : Dl) (t : List Int), vs = [.ref p, .ref x] ∧ DelAt c H p D ∧ TextAt c H x t ∧ t.length = D.ds.length ∧ Q .non H
theorem ok_Delta_need_fit (T : Txt K mg c) (G_need_text : GF P w K mg base 1 "need_text" ["value"] (spNeedText c)) : MF P w K mg base 2 c.de "need_fit" ["self", "text"] [] (spNeedFit c) := by
  refine T.d_Delta_need_fit.mf sc_Delta_need_fit bi_Delta_need_fit (fun vs H Q E h => ?_) (fun f cdv A outer s H vs Q E hr h => ?_)
  · obtain ⟨p, x, D, t, rfl, _⟩ := h
    rfl
  · obtain ⟨p, x, D, t, rfl, ⟨dx, r, pa, d, rs, hp, _⟩, hx, hl, q⟩ := h
    refine ⟨_, (pss_cons (ps_expr (pe_gf G_need_text hr (pa_cons (pv 1) pa_nil)))
      (pss_one (ps_if (pt_cmpR op_ne (pe_callB call_len_seq (by rfl) T.z_len (by decide +kernel) (pa_cons (pe_fld (pv 1) rfl) pa_nil)) (pe_fld (pv 0) rfl) (nomark _)) (pss_one ps_never) pss_nil))), ?_⟩
    refine ⟨_, rfl, x, t, rfl, hx, ?_⟩
    obtain ⟨tx, l, v, hx, hL⟩ := hx
    refine ⟨_, rfl, x, c.tx, tx, _, .ref l, rfl, hx, T.cl_tx, T.n_tx_own_chars, rfl, l, _, rfl, .inl (SqL.of hL), ?_⟩
    refine ⟨_, rfl, p, c.de, dx, _, _, rfl, hp, T.cl_de, T.n_de_own_before, rfl, rfl, _, rfl, ?_⟩
    rw [List.length_map, hl, decide_eq_true rfl]
    exact iteF q
end
end Tc
/-! # The plain law, part 3: the rows that inverted, over and composed write -/
namespace Tc
def invTl (x : Int) : Option Bool → List Row
  | some true => [.put [x]]
  | some false => [.keep 1]
  | none => []
def invAt (D : Dl) (t : List Int) (g : Nat) : List Row := .drop (D.ps.getD g []).length :: invTl (t.getD g 0) D.ds[g]?
def invTo (D : Dl) (t : List Int) (k : Nat) : List Row := (List.range k).flatMap (invAt D t)
def inv (D : Dl) (t : List Int) : List Row := invTo D t (D.ds.length + 1)
def besides (cs : List Int) (n : Nat) (first : Bool) : List Row := if first then [.put cs, .keep n] else [.keep n, .put cs]
def overAt (D E : Dl) (first : Bool) (g : Nat) : List Row := besides (D.ps.getD g []) (E.ps.getD g []).length first ++ (if E.ds[g]? = some false then [rowOf (D.ds[g]? == some true) 1] else [])
def overTo (D E : Dl) (first : Bool) (k : Nat) : List Row := (List.range k).flatMap (overAt D E first)
def over (D E : Dl) (first : Bool) : List Row := overTo D E first (D.ds.length + 1)
def ptr (D : Dl) : Nat → Nat
  | 0 => 0
  | k + 1 => ptr D k + (D.ps.getD k []).length + (if D.ds[k]? = some false then 1 else 0)
def ccAt (E : Dl) (p : Nat) (cs : List Int) (j : Nat) : List Row := [.put (E.ps.getD (p + j) []), .put (if E.ds[p + j]? = some true then [] else [cs.getD j 0])]
def ccTo (E : Dl) (p : Nat) (cs : List Int) (k : Nat) : List Row := (List.range k).flatMap (ccAt E p cs)
def compCs (E : Dl) (p : Nat) (cs : List Int) : List Row := ccTo E p cs cs.length
def compTl (E : Dl) (p : Nat) : Option Bool → List Row
  | some true => [.drop 1]
  | some false => [.put (E.ps.getD p []), rowOf (E.ds[p]? == some true) 1]
  | none => [.put (E.ps.getD p [])]
def compAt (D E : Dl) (g : Nat) : List Row := compCs E (ptr D g) (D.ps.getD g []) ++ compTl E (ptr D g + (D.ps.getD g []).length) D.ds[g]?
def compTo (D E : Dl) (k : Nat) : List Row := (List.range k).flatMap (compAt D E)
def comp (D E : Dl) : List Row := compTo D E (D.ds.length + 1)
theorem frange_succ {α : Type} (f : Nat → List α) (k : Nat) : (List.range (k + 1)).flatMap f = (List.range k).flatMap f ++ f k := by
  rw [List.range_succ, List.flatMap_append, List.flatMap_singleton]
theorem ptr_eq (D : Dl) : ∀ k, ptr D k = ((D.ps.take k).map List.length).sum + ((D.ds.take k).filter (!·)).length
  | 0 => rfl
  | k + 1 => by
    have e1 : ((D.ps.take (k + 1)).map List.length).sum = ((D.ps.take k).map List.length).sum + (D.ps.getD k []).length := by
      cases h : D.ps[k]? with
      | some x =>
        rw [take_snoc h, List.map_append, List.sum_append, List.getD_eq_getElem?_getD, h]
        simp
      | none =>
        have hk : D.ps.length ≤ k := List.getElem?_eq_none_iff.mp h
        rw [List.take_of_length_le hk, List.take_of_length_le (by omega), List.getD_eq_getElem?_getD, h]
        rfl
    have e2 : ((D.ds.take (k + 1)).filter (!·)).length = ((D.ds.take k).filter (!·)).length + (if D.ds[k]? = some false then 1 else 0) := by
      cases h : D.ds[k]? with
      | some x =>
        rw [take_snoc h, List.filter_append, List.length_append]
        cases x <;> simp
      | none =>
        have hk : D.ds.length ≤ k := List.getElem?_eq_none_iff.mp h
        rw [List.take_of_length_le hk, List.take_of_length_le (by omega)]
        simp
    show ptr D k + _ + _ = _
    rw [ptr_eq D k, e1, e2]
    omega
theorem ptr_mono (D : Dl) {a b : Nat} (h : a ≤ b) : ptr D a ≤ ptr D b := by
  induction b with
  | zero => rw [Nat.le_zero.mp h]; exact Nat.le_refl _
  | succ b ih =>
    by_cases e : a = b + 1
    · rw [e]; exact Nat.le_refl _
    · have := ih (by omega)
      show _ ≤ ptr D b + _ + _
      omega
theorem invTl_len (x : Int) (g : Option Bool) : (invTl x g).length ≤ 1 := by
  match g with
  | some true => exact Nat.le_refl _
  | some false => exact Nat.le_refl _
  | none => exact Nat.zero_le _
theorem inv_before (D : Dl) (t : List Int) : ∀ k, before (invTo D t k) = ptr D k
  | 0 => rfl
  | k + 1 => by
    show before ((List.range (k + 1)).flatMap _) = _
    rw [frange_succ, before_append]
    show before (invTo D t k) + ((D.ps.getD k []).length + before (invTl _ D.ds[k]?)) = ptr D k + _ + _
    rw [inv_before D t k]
    have e : before (invTl (t.getD k 0) D.ds[k]?) = if D.ds[k]? = some false then 1 else 0 := by
      match D.ds[k]? with
      | some true => rfl
      | some false => rfl
      | none => rfl
    rw [e]
    omega
theorem inv_rputs (D : Dl) (t : List Int) : ∀ k, (rputs (invTo D t k)).length ≤ k
  | 0 => Nat.le_refl _
  | k + 1 => by
    show (rputs ((List.range (k + 1)).flatMap _)).length ≤ _
    rw [frange_succ, rputs_append, List.length_append]
    have := inv_rputs D t k
    have e : (rputs (invAt D t k)).length ≤ 1 := by
      show (rputs (invTl (t.getD k 0) D.ds[k]?)).length ≤ 1
      match D.ds[k]? with
      | some true => exact Nat.le_refl _
      | some false => exact Nat.zero_le _
      | none => exact Nat.zero_le _
    show (rputs (invTo D t k)).length + _ ≤ _
    omega
theorem besides_before (cs : List Int) (n : Nat) (f : Bool) : before (besides cs n f) = n := by
  cases f <;> simp [besides, before, Row.ln]
theorem besides_rputs (cs : List Int) (n : Nat) (f : Bool) : rputs (besides cs n f) = cs := by
  cases f <;> simp [besides, rputs]
theorem rowOf_before (b : Bool) (n : Nat) : before [rowOf b n] = n := by cases b <;> rfl
theorem rowOf_rputs (b : Bool) (n : Nat) : rputs [rowOf b n] = [] := by cases b <;> rfl
theorem over_before (D E : Dl) (f : Bool) : ∀ k, before (overTo D E f k) = ptr E k
  | 0 => rfl
  | k + 1 => by
    show before ((List.range (k + 1)).flatMap _) = _
    rw [frange_succ, before_append]
    show before (overTo D E f k) + before (besides _ _ _ ++ _) = ptr E k + _ + _
    rw [over_before D E f k, before_append, besides_before]
    split
    · rw [rowOf_before, Nat.add_assoc]
    · rw [Nat.add_assoc]
      rfl
theorem over_rputs (D E : Dl) (f : Bool) : ∀ k, rputs (overTo D E f k) = (D.ps.take k).flatten
  | 0 => rfl
  | k + 1 => by
    show rputs ((List.range (k + 1)).flatMap _) = _
    rw [frange_succ, rputs_append]
    show rputs (overTo D E f k) ++ rputs (besides _ _ _ ++ _) = _
    rw [over_rputs D E f k, rputs_append, besides_rputs]
    have e : rputs (if E.ds[k]? = some false then [rowOf (D.ds[k]? == some true) 1] else []) = [] := by
      split
      · exact rowOf_rputs _ _
      · rfl
    rw [e, List.append_nil]
    cases h : D.ps[k]? with
    | some x => rw [take_snoc h, List.flatten_append, List.getD_eq_getElem?_getD, h]; simp
    | none =>
      have hk := List.getElem?_eq_none_iff.mp h
      rw [List.take_of_length_le hk, List.take_of_length_le (by omega), List.getD_eq_getElem?_getD, h]
      simp
theorem ccTo_len (E : Dl) (p : Nat) (cs : List Int) : ∀ k, (ccTo E p cs k).length = 2 * k
  | 0 => rfl
  | k + 1 => by
    show ((List.range (k + 1)).flatMap _).length = _
    rw [frange_succ, List.length_append]
    show (ccTo E p cs k).length + 2 = _
    rw [ccTo_len E p cs k]
    omega
theorem ccTo_before (E : Dl) (p : Nat) (cs : List Int) : ∀ k, before (ccTo E p cs k) = 0
  | 0 => rfl
  | k + 1 => by
    show before ((List.range (k + 1)).flatMap _) = _
    rw [frange_succ, before_append]
    show before (ccTo E p cs k) + 0 = _
    rw [ccTo_before E p cs k]
theorem compTl_len (E : Dl) (p : Nat) (g : Option Bool) : (compTl E p g).length ≤ 2 := by
  match g with
  | some true => exact Nat.le_succ _
  | some false => exact Nat.le_refl _
  | none => exact Nat.le_succ _
theorem compTl_before (E : Dl) (p : Nat) (g : Option Bool) : before (compTl E p g) ≤ 1 := by
  match g with
  | some true => exact Nat.le_refl _
  | some false =>
    show 0 + before [rowOf _ 1] ≤ 1
    rw [rowOf_before]
    exact Nat.le_refl _
  | none => exact Nat.zero_le _
theorem compTo_len (D E : Dl) : ∀ k, (compTo D E k).length ≤ 2 * ptr D k + 2 * k
  | 0 => Nat.le_refl _
  | k + 1 => by
    show ((List.range (k + 1)).flatMap _).length ≤ _
    rw [frange_succ, List.length_append]
    have ih := compTo_len D E k
    have e : (compAt D E k).length ≤ 2 * (D.ps.getD k []).length + 2 := by
      unfold compAt compCs
      rw [List.length_append, ccTo_len]
      have := compTl_len E (ptr D k + (D.ps.getD k []).length) D.ds[k]?
      omega
    show (compTo D E k).length + _ ≤ 2 * (ptr D k + _ + _) + _
    omega
theorem compTo_before (D E : Dl) : ∀ k, before (compTo D E k) ≤ k
  | 0 => Nat.le_refl _
  | k + 1 => by
    show before ((List.range (k + 1)).flatMap _) ≤ _
    rw [frange_succ, before_append]
    have ih := compTo_before D E k
    have e : before (compAt D E k) ≤ 1 := by
      unfold compAt compCs
      rw [before_append, ccTo_before, Nat.zero_add]
      exact compTl_before _ _ _
    show before (compTo D E k) + _ ≤ _
    omega
/-! ## Sums over what is put -/
section
variable {μ : List Int → Nat} (hμ : ∀ a b, μ (a ++ b) = μ a + μ b)
include hμ
theorem mu_nil : μ [] = 0 := by
  have := hμ [] []
  rw [List.append_nil] at this
  omega
theorem mu_take (l : List (List Int)) (k : Nat) : μ (l.take (k + 1)).flatten = μ (l.take k).flatten + μ (l.getD k []) := by
  cases h : l[k]? with
  | some x =>
    rw [take_snoc h, List.flatten_append, hμ, List.getD_eq_getElem?_getD, h]
    simp
  | none =>
    have hk := List.getElem?_eq_none_iff.mp h
    rw [List.take_of_length_le hk, List.take_of_length_le (by omega), List.getD_eq_getElem?_getD, h]
    show _ = _ + μ []
    rw [mu_nil hμ]
    rfl
theorem mu_snoc (l : List Int) (k : Nat) (h : k < l.length) : μ (l.take (k + 1)) = μ (l.take k) + μ [l.getD k 0] := by
  have e : l[k]? = some l[k] := List.getElem?_eq_getElem h
  rw [take_snoc e, hμ, List.getD_eq_getElem?_getD, e]
  rfl
theorem mu_cc (E : Dl) (p : Nat) (cs : List Int) : ∀ k, k ≤ cs.length → μ (rputs (ccTo E p cs k)) + μ (E.ps.take p).flatten ≤ μ (E.ps.take (p + k)).flatten + μ (cs.take k)
  | 0, _ => by
    show μ [] + _ ≤ _
    rw [mu_nil hμ]
    simp
  | k + 1, h => by
    have ih := mu_cc E p cs k (by omega)
    show μ (rputs ((List.range (k + 1)).flatMap _)) + _ ≤ _
    rw [frange_succ, rputs_append, hμ, ← Nat.add_assoc, mu_take hμ, mu_snoc hμ _ _ (by omega)]
    show μ (rputs (ccTo E p cs k)) + μ (E.ps.getD (p + k) [] ++ ((if E.ds[p + k]? = some true then [] else [cs.getD k 0]) ++ [])) + _ ≤ _
    rw [hμ, List.append_nil]
    have e : μ (if E.ds[p + k]? = some true then [] else [cs.getD k 0]) ≤ μ [cs.getD k 0] := by
      split
      · rw [mu_nil hμ]
        exact Nat.zero_le _
      · exact Nat.le_refl _
    omega
theorem mu_compTo (D E : Dl) : ∀ k, k ≤ D.ds.length → μ (rputs (compTo D E k)) ≤ μ (E.ps.take (ptr D k)).flatten + μ (D.ps.take k).flatten
  | 0, _ => by
    show μ [] ≤ _
    rw [mu_nil hμ]
    exact Nat.zero_le _
  | k + 1, h => by
    have ih := mu_compTo D E k (by omega)
    have hc := mu_cc hμ E (ptr D k) (D.ps.getD k []) (D.ps.getD k []).length (Nat.le_refl _)
    rw [List.take_of_length_le (Nat.le_refl _)] at hc
    show μ (rputs ((List.range (k + 1)).flatMap _)) ≤ _
    rw [frange_succ, rputs_append, hμ, mu_take hμ]
    show μ (rputs (compTo D E k)) + μ (rputs (ccTo _ _ _ _ ++ _)) ≤ μ (E.ps.take (ptr D k + _ + _)).flatten + _
    rw [rputs_append, hμ]
    have hd : D.ds[k]? = some (D.ds[k]'(by omega)) := List.getElem?_eq_getElem (by omega)
    rw [hd]
    cases hb : D.ds[k]'(by omega) with
    | true =>
      rw [if_neg (by intro z; cases z)]
      show _ + (_ + μ []) ≤ _
      rw [mu_nil hμ]
      show _ ≤ μ (E.ps.take (ptr D k + (D.ps.getD k []).length)).flatten + _
      omega
    | false =>
      rw [if_pos rfl, mu_take hμ]
      show _ + (_ + μ (rputs (_ :: [rowOf _ 1]))) ≤ _
      show _ + (_ + μ (E.ps.getD _ [] ++ rputs [rowOf _ 1])) ≤ _
      rw [rowOf_rputs, List.append_nil]
      omega
theorem mu_comp {D E : Dl} (wD : D.Wf) : μ (rputs (comp D E)) ≤ μ (E.ps.take (ptr D (D.ds.length + 1) + 1)).flatten + μ D.ps.flatten := by
  have ih := mu_compTo hμ D E D.ds.length (Nat.le_refl _)
  have hc := mu_cc hμ E (ptr D D.ds.length) (D.ps.getD D.ds.length []) (D.ps.getD D.ds.length []).length (Nat.le_refl _)
  rw [List.take_of_length_le (Nat.le_refl _)] at hc
  have e := mu_take hμ D.ps D.ds.length
  have wl := wD.ln
  rw [List.take_of_length_le (by omega)] at e
  show μ (rputs ((List.range (D.ds.length + 1)).flatMap _)) ≤ _
  rw [frange_succ, rputs_append, hμ]
  show μ (rputs (compTo D E D.ds.length)) + μ (rputs (ccTo _ _ _ _ ++ _)) ≤ μ (E.ps.take (ptr D D.ds.length + _ + _ + 1)).flatten + _
  rw [rputs_append, hμ, List.getElem?_eq_none (Nat.le_refl _), if_neg (by intro z; cases z), mu_take hμ]
  show _ + (_ + μ (E.ps.getD _ [] ++ [])) ≤ _
  rw [List.append_nil]
  show _ ≤ μ (E.ps.take (ptr D D.ds.length + (D.ps.getD D.ds.length []).length)).flatten + μ (E.ps.getD (ptr D D.ds.length + (D.ps.getD D.ds.length []).length) []) + _
  omega
end
end Tc
/-! # The walks: what deltas do -/
namespace Tc
open PySem PySem.Spec PyProof.Rows L2
theorem appTo_len (D : Dl) (t : List Int) : ∀ k, (appTo D t k).length = ptr D k
  | 0 => rfl
  | k + 1 => by
    rw [appTo_succ, List.length_append, appTo_len D t k]
    unfold gapc
    rw [List.length_append]
    show _ = ptr D k + _ + _
    split <;> simp <;> omega
theorem ptr_full {D : Dl} (w : D.Wf) : ptr D (D.ds.length + 1) = aft D := by
  have wl := w.ln
  rw [ptr_eq, List.take_of_length_le (by omega), List.take_of_length_le (by omega)]
  unfold aft putsLen
  omega
theorem app_len {D : Dl} (w : D.Wf) (t : List Int) : (app D t).length = aft D := by
  unfold app
  rw [appTo_len, ptr_full w]
theorem appTo_mem {D : Dl} {t : List Int} {x : Int} (ht : t.length = D.ds.length) : ∀ k, x ∈ appTo D t k → x ∈ D.ps.flatten ∨ x ∈ t
  | 0, h => by cases h
  | k + 1, h => by
    rw [appTo_succ, List.mem_append] at h
    rcases h with h | h
    · exact appTo_mem ht k h
    · unfold gapc at h
      rw [List.mem_append] at h
      rcases h with h | h
      · left
        cases e : D.ps[k]? with
        | none =>
          rw [List.getD_eq_getElem?_getD, e] at h
          cases h
        | some y =>
          rw [List.getD_eq_getElem?_getD, e] at h
          exact List.mem_flatten.mpr ⟨y, List.mem_of_getElem? e, h⟩
      · right
        split at h
        · rename_i e
          have hk := (List.getElem?_eq_some_iff.mp e).1
          rw [List.mem_singleton, List.getD_eq_getElem?_getD, List.getElem?_eq_getElem (by omega)] at h
          rw [h]
          exact List.getElem_mem _
        · cases h
theorem aft_le (D : Dl) : aft D ≤ D.ds.length + D.ps.flatten.length := by
  unfold aft
  rw [putsLen_eq]
  have := List.length_filter_le (!·) D.ds
  omega
section
variable {P : Program} {w : World} {K : PySem.W.Frag} {mg : Str → Option Value} {base : Heap} {c : Cs}
theorem fr_wide2 {H H1 H' : Hp} (s : Same H H1) : Same (Fr H1 H') (Fr H H') := fr_wide (dom_same s)
/- Delta.rows: 0 self, 1 word, 2 more -/
theorem sc_Delta_rows : FnScope ["self", "word", "more"] ["self"] (defScope s_Delta_rows) := ⟨rfl, rfl, rfl, by decide +kernel, rfl, by decide +kernel, by decide +kernel⟩
theorem bi_Delta_rows : BindsB "rows" "Delta.rows" s_Delta_rows ["self"] := fun _ _ _ _ _ _ us hl => match us, hl with | [_], _ => rfl
def spDelRows (c : Cs) : Sp := fun vs H Q _ => ∃ (p : Addr) (D : Dl), vs = [.ref p] ∧ DelAt c H p D ∧ D.ds.length ≤ 100000 ∧ ∀ H' a rs, Same H H' → RowsAt (Fr H H') a rs → gaps rs = D → rs.length ≤ 2 * D.ds.length + 1 → Q (.ref a) H'
theorem ok_Delta_rows (T : Txt K mg c) : MF P w K mg base 1 c.de "rows" ["self"] [] (spDelRows c) := by
  refine T.d_Delta_rows.mf sc_Delta_rows bi_Delta_rows (fun vs H Q E h => ?_) (fun f cdv A outer s H vs Q E hr h => ?_)
  · obtain ⟨p, D, rfl, _⟩ := h
    rfl
  · obtain ⟨p, D, rfl, ⟨dx, r, pa, d, rs, hp, ⟨as, hra, hrs⟩, hg, hl, _⟩, hsz, q⟩ := h
    refine ⟨_, (pss_one (ps_ret (pe_lc (own := [("word", 1), ("more", 2)]) (g := gTup K 2 (gCons (gName 1) (gCons (gName 2) gNil))) rfl sc_Delta_rows.nd (pi_listN K (pe_fld (pv 0) rfl)) (blkOk_by (own := [("word", 1), ("more", 2)]) (N := ["self", "word", "more"]) (sc := defScope s_Delta_rows) (by decide +kernel)) (fun _ _ _ _ _ => (pg_tupN K rfl (pgs_cons (pg_name (i := 1) sc_Delta_rows.nd rfl (by first | exact Or.inl rfl | exact Or.inr rfl)) (pgs_cons (pg_name (i := 2) sc_Delta_rows.nd rfl (by first | exact Or.inl rfl | exact Or.inr rfl)) pgs_nil)))) (fun _ _ _ _ _ => pts_nil) (fun _ _ _ _ _ => (pe_ifExp (pt_cmpR op_eq (pv 1) (pe_globE T.s_PUT) (nomark _)) (pe_tup (pa_cons (pv 1) (pa_cons (pe_callTy (call_list_ofN K) (by rfl) T.z_list (by decide +kernel) (pa_cons (pv 2) pa_nil)) pa_nil))) (pe_tup (pa_cons (pv 1) (pa_cons (pv 2) pa_nil)))))))), ?_⟩
    refine ⟨_, rfl, p, c.de, dx, _, .ref r, rfl, hp, T.cl_de, T.n_de_own_rows, rfl, r, rfl, ⟨_, SqL.of hra⟩, fun L hL => ?_⟩
    refine lc_list (K := K) (a := r) (xs := as.map V.ref) (fun i H3 => FI H H L H3 (rs.take i)) (FI.start same_refl hL) (fun i H3 _ g => SqL.of (g.s _ _ hra)) ?_ ?_
    · rintro i y H3 hy g
      obtain ⟨a, ha, rfl⟩ := lmap_at hy
      obtain ⟨row, hri, hrow⟩ := pr_at2 hrs ha
      have hi := (List.getElem?_eq_some_iff.mp hri).1
      rw [take_snoc hri]
      have hrow3 := hrow.mono g.s
      obtain ⟨xs, hxs, hxl⟩ := g.lst
      rw [List.length_take] at hxl
      have two : (∃ (b : Bool) (n : Nat), row = rowOf b n ∧ H3 a = some (.tup [.str (kdw b), .int n])) ∨ ∃ cs l, row = .put cs ∧ H3 a = some (.tup [.str "put", .ref l]) ∧ LAt H3 l cs := by
        cases row with
        | keep n => exact .inl ⟨false, n, rfl, hrow3⟩
        | drop n => exact .inl ⟨true, n, rfl, hrow3⟩
        | put cs =>
          obtain ⟨l, h1, h2⟩ := hrow3
          exact .inr ⟨cs, l, rfl, h1, h2⟩
      rcases two with ⟨b, n, rfl, e1⟩ | ⟨cs, l, rfl, e1, hl1⟩
      · refine ⟨a, _, rfl, SqT.of e1, rfl, _, _, rfl, _, _, rfl, rfl, rfl, yesT ?_⟩
        refine ⟨_, rfl, rfl, _, rfl, ?_⟩
        rw [kdw_put]
        refine iteF ⟨_, rfl, _, rfl, lk 2 (by decide), fun t ht => ⟨xs, (same_upd ht) _ _ hxs, szlt _ (by omega), ?_⟩⟩
        exact (g.same (same_upd ht)).push ((same_upd ht) _ _ hxs) (g.num ht b n)
      · refine ⟨a, _, rfl, SqT.of e1, rfl, _, _, rfl, _, _, rfl, rfl, rfl, yesT ?_⟩
        refine ⟨_, rfl, rfl, _, rfl, ?_⟩
        rw [decide_eq_true (show V.str "put" = V.str "put" from rfl)]
        refine iteT ⟨_, rfl, _, rfl, l, _, rfl, .inl (SqL.of hl1), fun m hm => ⟨lk 2 (by decide), fun t ht => ⟨xs, (same_upd ht) _ _ ((same_upd hm) _ _ hxs), szlt _ (by omega), ?_⟩⟩⟩
        have g2 := g.same (same_upd (o := .lst (cs.map V.int)) hm)
        refine (g2.same (same_upd ht)).push ((same_upd ht) _ _ ((same_upd hm) _ _ hxs)) (g2.putr ht ?_)
        have hh := g.notfa hm
        show Fr H _ m = some (.lst (cs.map V.int))
        unfold Fr
        rw [if_pos hh.2, msk_at (by simpa using hh.1)]
        exact upd_same
    · rintro H3 g
      rw [List.length_map, pr_len hrs, List.take_length] at g
      exact q _ L rs g.s g.done hg hl
/- Delta.__call__: 0 self, 1 text, 2 found, 3 gap, 4 chars -/
theorem sc_Delta_call : FnScope ["self", "text", "found", "gap", "chars"] ["self", "text"] (defScope s_Delta_call) := ⟨rfl, rfl, rfl, by decide +kernel, rfl, by decide +kernel, by decide +kernel⟩
theorem bi_Delta_call : BindsB "__call__" "Delta.__call__" s_Delta_call ["self", "text"] := fun _ _ _ _ _ _ us hl => match us, hl with | [_, _], _ => rfl
def spDelCall (c : Cs) : Sp := fun vs H Q _ => ∃ (p x : Addr) (D : Dl) (t : List Int), vs = [.ref p, .ref x] ∧ DelAt c H p D ∧ TextAt c H x t ∧ t.length = D.ds.length ∧ (∀ y ∈ t, ChOk y) ∧ (∀ y ∈ D.ps.flatten, ChOk y) ∧ D.ds.length ≤ 50000 ∧ D.ps.flatten.length ≤ 50000 ∧
  ∀ H' a, Same H H' → TextAt c (Fr H H') a (app D t) → Q (.ref a) H'
theorem ok_Delta_call (T : Txt K mg c) (G_Delta_need_fit : MF P w K mg base 2 c.de "need_fit" ["self", "text"] [] (spNeedFit c)) (G_Text_init : KF P w K mg base 5 "Text" c.tx ["self", "chars"] (spTextInit c)) : CF P w K mg base 7 c.de (spDelCall c) := by
  refine T.d_Delta_call.cf sc_Delta_call bi_Delta_call (fun vs H Q E h => ?_) (fun f cdv A outer s H vs Q E hr h => ?_)
  · obtain ⟨p, x, D, t, rfl, _⟩ := h
    rfl
  · obtain ⟨p, x, D, t, rfl, hD, hx, hl, hc, hcp, hs1, hs2, q⟩ := h
    have wf := hD.wf
    have wl := wf.ln
    obtain ⟨dx, r, pa, d, rs, hp, hrs, hg, hlen, ⟨ls, hpa, hls⟩, hds⟩ := id hD
    obtain ⟨tx, tl, tv, hxx, hxl⟩ := id hx
    refine ⟨_, (pss_cons (ps_expr (pe_mf G_Delta_need_fit T.cl_de hr (pv 0) (pa_cons (pv 1) pa_nil)))
      (pss_cons (ps_set (i := 2) sc_Delta_call.nd rfl (Or.inl rfl) (pe_lst pa_nil))
      (pss_cons (ps_for PassesOwn.never rfl (pi_enum (by rfl) T.z_enumerate (pa_cons (pe_fld (pv 0) rfl) pa_nil)) (pg_tup rfl (pgs_cons (pg_name (i := 3) sc_Delta_call.nd rfl (Or.inl rfl)) (pgs_cons (pg_name (i := 4) sc_Delta_call.nd rfl (Or.inl rfl)) pgs_nil)))
      (pss_cons (ps_set (i := 2) sc_Delta_call.nd rfl (Or.inl rfl) (pe_op op_cat (pv 2) (pv 4)))
      (pss_one (ps_if (PW.pt (pw_and (pt_cmpR op_lt (pv 3) (pe_fld (pv 0) rfl) (nomark _)) (pw_and1 (pt_not (pt_val (pe_ix ix_list (pe_fld (pv 0) rfl) (pv 3) (fun _ _ => rfl))))))) (pss_one (ps_expr (pe_bm PySem.F.plainAttrs_list PySem.F.slot_list_append PySem.F.type_list_append mt_append (pv 2) (pa_cons (pe_ix ix_list (pe_fld (pv 1) rfl) (pv 3) (fun _ _ => rfl)) pa_nil)))) pss_nil))))
      (pss_one (ps_ret (pe_kf G_Text_init hr (pa_cons (pv 2) pa_nil))))))), ?_⟩
    refine ⟨_, rfl, p, dx, _, rfl, hp, rfl, _, rfl, p, x, D, t, rfl, hD, hx, hl, ?_⟩
    refine ⟨lk 0 (by decide), fun fa hfa => ?_⟩
    have s1 : Same H (upd H fa (.lst [])) := same_upd hfa
    refine ⟨_, rfl, p, c.de, dx, _, .ref pa, rfl, s1 _ _ hp, T.cl_de, T.n_de_puts, rfl, pa, _, rfl, SqL.of (s1 _ _ hpa),
      for_it (walk_enum (K := K) (a := pa) (xs := ls.map V.ref)) (fun i σ H2 => ∃ fb v3 v4, σ = [some (.ref p), some (.ref x), some (.ref fb), v3, v4] ∧ Same H H2 ∧ H fb = none ∧ LAt H2 fb (appTo D t i)) ⟨fa, none, none, rfl, s1, hfa, upd_same⟩ ?_ ?_ ?_⟩
    · rintro i σ H2 - ⟨fb, v3, v4, rfl, s2, _, _⟩
      exact SqL.of (s2 _ _ hpa)
    · rintro i x' σ H2 H3 hi ⟨fb, v3, v4, rfl, s2, nb, hb⟩ ⟨T0, y1, y2, rfl, hT, rfl, e1, e2⟩
      cases e1
      obtain ⟨l, hll, rfl⟩ := lmap_at e2
      obtain ⟨cs, hcs, hL⟩ := pr_at2 hls hll
      rw [List.length_map, pr_len hls] at hi
      have ecs : D.ps.getD i [] = cs := by rw [List.getD_eq_getElem?_getD, hcs]; rfl
      have hcl : cs.length ≤ 50000 := Nat.le_trans (flat_at hcs) hs2
      have hpt : ptr D i ≤ 100000 := by
        have := ptr_mono D (show i ≤ D.ds.length + 1 by omega)
        rw [ptr_full wf] at this
        have := aft_le D
        omega
      have s3 := s2.trans (same_upd (o := .tup [.int (i : Nat), .ref l]) hT)
      have hb3 := (same_upd (o := .tup [.int (i : Nat), .ref l]) hT) _ _ hb
      refine ⟨T0, _, rfl, SqT.of upd_same, rfl, _, _, rfl, _, _, rfl, rfl, ?_⟩
      generalize upd H2 T0 (.tup [.int (i : Nat), .ref l]) = H3 at *
      refine ⟨_, rfl, _, rfl, fb, l, _, _, rfl, rfl, hb3, hL.mono s3, ?_, fun fc hfc => ?_⟩
      · rw [List.length_map, List.length_map, appTo_len]
        exact sz _ (by omega)
      have s4 := s3.trans (same_upd (o := .lst ((appTo D t i).map V.int ++ cs.map V.int)) hfc)
      have nfc : H fc = none := s3.free hfc
      have hfc4 : upd H3 fc (.lst ((appTo D t i).map V.int ++ cs.map V.int)) fc = some (.lst ((appTo D t i ++ cs).map V.int)) := by
        rw [upd_same, List.map_append]
      generalize upd H3 fc (.lst ((appTo D t i).map V.int ++ cs.map V.int)) = H4 at *
      refine ⟨_, rfl, _, rfl, p, c.de, dx, _, _, rfl, s4 _ _ hp, T.cl_de, T.n_de_own_before, rfl, _, _, rfl, rfl, _, rfl, ?_⟩
      have hgap : gapc D t i = cs ++ (if D.ds[i]? = some false then [t.getD i 0] else []) := by unfold gapc; rw [ecs]
      by_cases hin : i < D.ds.length
      · rw [decide_eq_true (show (i : Int) < (D.ds.length : Int) by omega)]
        have hdi : D.ds[i]? = some (D.ds[i]'hin) := List.getElem?_eq_getElem hin
        refine iteT ⟨_, rfl, p, c.de, dx, _, .ref d, rfl, s4 _ _ hp, T.cl_de, T.n_de_drops, rfl, _, rfl, d, D.ds.map V.bl, (i : Int), .bl (D.ds[i]'hin), rfl, rfl, SqL.of (s4 _ _ hds), atI_of (by rw [List.getElem?_map, hdi]; rfl), _, rfl, ?_⟩
        rw [hdi] at hgap
        cases hb2 : D.ds[i]'hin with
        | true =>
          refine iteF ⟨fc, _, _, rfl, s4, nfc, ?_⟩
          rw [appTo_succ, hgap, hb2, if_neg (by intro z; cases z), List.append_nil]
          exact hfc4
        | false =>
          have hti : t[i]? = some (t[i]'(by omega)) := List.getElem?_eq_getElem (by omega)
          refine iteT ⟨_, rfl, .inl ⟨rfl, _, SqL.of hfc4⟩, _, rfl, x, c.tx, tx, _, .ref tl, rfl, s4 _ _ hxx, T.cl_tx, T.n_tx_own_chars, rfl, _, rfl, tl, t.map V.int, (i : Int), .int (t[i]'(by omega)), rfl, rfl, SqL.of (s4 _ _ hxl), atI_of (by rw [List.getElem?_map, hti]; rfl),
            fc, _, _, rfl, rfl, hfc4, szlt _ (by rw [List.length_map, List.length_append, appTo_len]; omega), fc, _, _, rfl, same_mut s4 nfc, nfc, ?_⟩
          show upd H4 fc _ fc = _
          rw [upd_same, appTo_succ, hgap, hb2, if_pos rfl, ← List.append_assoc, List.getD_eq_getElem?_getD, hti]
          simp [List.map_append]
      · rw [decide_eq_false (show ¬ (i : Int) < (D.ds.length : Int) by omega)]
        refine iteF (iteF ⟨fc, _, _, rfl, s4, nfc, ?_⟩)
        rw [appTo_succ, hgap, List.getElem?_eq_none (by omega), if_neg (by intro z; cases z), List.append_nil]
        exact hfc4
    · rintro σ H2 ⟨fb, v3, v4, rfl, s2, nb, hb⟩
      rw [List.length_map, pr_len hls, wl] at hb
      have hmem : ∀ y ∈ app D t, ChOk y := fun y hy => (appTo_mem hl _ hy).elim (hcp y) (hc y)
      refine ⟨_, rfl, mk_text hb hmem ?_ fun H' a s3 ha => q H' a (s2.trans s3) (ha.mono (fr_wide2 s2))⟩
      show (app D t).length ≤ 100000
      have := aft_le D
      rw [app_len wf]
      omega
/- Delta.inverted: 0 self, 1 text, 2 found, 3 gap, 4 chars -/
theorem sc_Delta_inverted : FnScope ["self", "text", "found", "gap", "chars"] ["self", "text"] (defScope s_Delta_inverted) := ⟨rfl, rfl, rfl, by decide +kernel, rfl, by decide +kernel, by decide +kernel⟩
theorem bi_Delta_inverted : BindsB "inverted" "Delta.inverted" s_Delta_inverted ["self", "text"] := fun _ _ _ _ _ _ us hl => match us, hl with | [_, _], _ => rfl
def spDelInv (c : Cs) : Sp := fun vs H Q _ => ∃ (p x : Addr) (D : Dl) (t : List Int), vs = [.ref p, .ref x] ∧ DelAt c H p D ∧ TextAt c H x t ∧ t.length = D.ds.length ∧ D.ds.length ≤ 50000 ∧ D.ps.flatten.length ≤ 50000 ∧
  ∀ H' a, Same H H' → DelAt c (Fr H H') a (gaps (inv D t)) → Q (.ref a) H'
theorem ok_Delta_inverted (T : Txt K mg c) (G_Delta_need_fit : MF P w K mg base 2 c.de "need_fit" ["self", "text"] [] (spNeedFit c)) (G_delta_of : GF P w K mg base 5 "delta_of" ["rows"] (spDeltaOf c)) : MF P w K mg base 6 c.de "inverted" ["self", "text"] [] (spDelInv c) := by
  refine T.d_Delta_inverted.mf sc_Delta_inverted bi_Delta_inverted (fun vs H Q E h => ?_) (fun f cdv A outer s H vs Q E hr h => ?_)
  · obtain ⟨p, x, D, t, rfl, _⟩ := h
    rfl
  · obtain ⟨p, x, D, t, rfl, hD, hx, hl, hs1, hs2, q⟩ := h
    have wf := hD.wf
    have wl := wf.ln
    obtain ⟨dx, r, pa, d, rs, hp, hrs, hg, hlen, ⟨ls, hpa, hls⟩, hds⟩ := id hD
    obtain ⟨tx, tl, tv, hxx, hxl⟩ := id hx
    refine ⟨_, (pss_cons (ps_expr (pe_mf G_Delta_need_fit T.cl_de hr (pv 0) (pa_cons (pv 1) pa_nil)))
      (pss_cons (ps_set (i := 2) sc_Delta_inverted.nd rfl (Or.inl rfl) (pe_lst pa_nil))
      (pss_cons (ps_for PassesOwn.never rfl (pi_enum (by rfl) T.z_enumerate (pa_cons (pe_fld (pv 0) rfl) pa_nil)) (pg_tup rfl (pgs_cons (pg_name (i := 3) sc_Delta_inverted.nd rfl (Or.inl rfl)) (pgs_cons (pg_name (i := 4) sc_Delta_inverted.nd rfl (Or.inl rfl)) pgs_nil)))
      (pss_cons (ps_expr (pe_bm PySem.F.plainAttrs_list PySem.F.slot_list_append PySem.F.type_list_append mt_append (pv 2) (pa_cons (pe_tup (pa_cons (pe_globE T.s_DROP) (pa_cons (pe_callB call_len_seq (by rfl) T.z_len (by decide +kernel) (pa_cons (pv 4) pa_nil)) pa_nil))) pa_nil)))
      (pss_one (ps_if (pt_cmpR op_lt (pv 3) (pe_fld (pv 0) rfl) (nomark _)) (pss_one (ps_expr (pe_bm PySem.F.plainAttrs_list PySem.F.slot_list_append PySem.F.type_list_append mt_append (pv 2) (pa_cons (pe_ifExp (pt_val (pe_ix ix_list (pe_fld (pv 0) rfl) (pv 3) (fun _ _ => rfl))) (pe_tup (pa_cons (pe_globE T.s_PUT) (pa_cons (pe_lst (pa_cons (pe_ix ix_list (pe_fld (pv 1) rfl) (pv 3) (fun _ _ => rfl)) pa_nil)) pa_nil))) (pe_tup (pa_cons (pe_globE T.s_KEEP) (pa_cons pe_int pa_nil)))) pa_nil)))) pss_nil))))
      (pss_one (ps_ret (pe_gf G_delta_of hr (pa_cons (pv 2) pa_nil))))))), ?_⟩
    refine ⟨_, rfl, p, dx, _, rfl, hp, rfl, _, rfl, p, x, D, t, rfl, hD, hx, hl, ?_⟩
    refine ⟨lk 0 (by decide), fun fa hfa => ?_⟩
    have s1 : Same H (upd H fa (.lst [])) := same_upd hfa
    refine ⟨_, rfl, p, c.de, dx, _, .ref pa, rfl, s1 _ _ hp, T.cl_de, T.n_de_puts, rfl, pa, _, rfl, SqL.of (s1 _ _ hpa),
      for_it (walk_enum (K := K) (a := pa) (xs := ls.map V.ref)) (fun i σ H2 => ∃ v3 v4, σ = [some (.ref p), some (.ref x), some (.ref fa), v3, v4] ∧ FI H H fa H2 (invTo D t i) ∧ (invTo D t i).length ≤ 2 * i) ⟨none, none, rfl, FI.start same_refl hfa, Nat.le_refl _⟩ ?_ ?_ ?_⟩
    · rintro i σ H2 - ⟨v3, v4, rfl, g, _⟩
      exact SqL.of (g.s _ _ hpa)
    · rintro i x' σ H2 H3 hi ⟨v3, v4, rfl, g, hll⟩ ⟨T0, y1, y2, rfl, hT, rfl, e1, e2⟩
      cases e1
      obtain ⟨l, hll2, rfl⟩ := lmap_at e2
      obtain ⟨cs, hcs, hL⟩ := pr_at2 hls hll2
      rw [List.length_map, pr_len hls] at hi
      have ecs : D.ps.getD i [] = cs := by rw [List.getD_eq_getElem?_getD, hcs]; rfl
      have hnx : invTo D t (i + 1) = invTo D t i ++ invAt D t i := frange_succ _ _
      have hat : invAt D t i = .drop cs.length :: invTl (t.getD i 0) D.ds[i]? := by unfold invAt; rw [ecs]
      have g3 := g.same (same_upd (o := .tup [.int (i : Nat), .ref l]) hT)
      refine ⟨T0, _, rfl, SqT.of upd_same, rfl, _, _, rfl, _, _, rfl, rfl, ?_⟩
      generalize upd H2 T0 (.tup [.int (i : Nat), .ref l]) = H3 at *
      generalize invTo D t i = R at *
      obtain ⟨xs, hxs, hxl2⟩ := g3.lst
      refine seq_join (fun σ H4 => σ = [some (.ref p), some (.ref x), some (.ref fa), some (.int (i : Nat)), some (.ref l)] ∧ FI H H fa H4 (R ++ [.drop cs.length])) (fun N hN => ?_) ?_
      · refine ⟨_, rfl, .inl ⟨rfl, _, SqL.of hxs⟩, _, rfl, l, _, rfl, .inl (SqL.of (hL.mono g3.s)), lk 2 (by decide), fun t1 ht1 => ⟨fa, xs, _, rfl, rfl, (same_upd ht1) _ _ hxs, szlt _ (by omega), ?_⟩⟩
        rw [List.length_map]
        exact hN _ _ ⟨rfl, (g3.same (same_upd ht1)).push ((same_upd ht1) _ _ hxs) (g3.num ht1 true cs.length)⟩
      clear hxs hxl2 xs
      rintro σ H4 ⟨rfl, g4⟩
      obtain ⟨xs, hxs4, hxl2⟩ := g4.lst
      rw [List.length_append, List.length_singleton] at hxl2
      refine ⟨_, rfl, _, rfl, p, c.de, dx, _, _, rfl, g4.s _ _ hp, T.cl_de, T.n_de_own_before, rfl, _, _, rfl, rfl, _, rfl, ?_⟩
      by_cases hin : i < D.ds.length
      · rw [decide_eq_true (show (i : Int) < (D.ds.length : Int) by omega)]
        have hdi : D.ds[i]? = some (D.ds[i]'hin) := List.getElem?_eq_getElem hin
        have hti : t[i]? = some (t[i]'(by omega)) := List.getElem?_eq_getElem (by omega)
        rw [hdi] at hat
        refine iteT ⟨_, rfl, .inl ⟨rfl, _, SqL.of hxs4⟩, _, rfl, p, c.de, dx, _, .ref d, rfl, g4.s _ _ hp, T.cl_de, T.n_de_drops, rfl, _, rfl, d, D.ds.map V.bl, (i : Int), .bl (D.ds[i]'hin), rfl, rfl, SqL.of (g4.s _ _ hds), atI_of (by rw [List.getElem?_map, hdi]; rfl), _, rfl, ?_⟩
        cases hb2 : D.ds[i]'hin with
        | true =>
          rw [hb2] at hat
          refine iteT ⟨_, rfl, x, c.tx, tx, _, .ref tl, rfl, g4.s _ _ hxx, T.cl_tx, T.n_tx_own_chars, rfl, _, rfl, tl, t.map V.int, (i : Int), .int (t[i]'(by omega)), rfl, rfl, SqL.of (g4.s _ _ hxl), atI_of (by rw [List.getElem?_map, hti]; rfl),
            lk 1 (by decide), fun m hm => ⟨lk 2 (by decide), fun t2 ht2 => ⟨fa, _, _, rfl, rfl, (same_upd ht2) _ _ ((same_upd hm) _ _ hxs4), szlt _ (by omega), ?_⟩⟩⟩
          refine ⟨_, _, rfl, ?_, ?_⟩
          · rw [hnx, hat]
            have g5 := g4.same (same_upd (o := .lst [.int (t[i]'(by omega))]) hm)
            have hh := g4.notfa hm
            have := (g5.same (same_upd ht2)).push ((same_upd ht2) _ _ ((same_upd hm) _ _ hxs4)) (g5.putr (cs := [t.getD i 0]) ht2 (by
              show Fr H _ m = some (.lst [.int (t.getD i 0)])
              unfold Fr
              rw [if_pos hh.2, msk_at (by simpa using hh.1), upd_same, List.getD_eq_getElem?_getD, hti]
              rfl))
            rwa [List.append_assoc] at this
          · rw [hnx, hat, List.length_append, List.length_cons]
            have := invTl_len (t.getD i 0)
            first | (have := this (some true); omega) | (have := this (some false); omega)
        | false =>
          rw [hb2] at hat
          refine iteF ⟨lk 2 (by decide), fun t2 ht2 => ⟨fa, _, _, rfl, rfl, (same_upd ht2) _ _ hxs4, szlt _ (by omega), ?_⟩⟩
          refine ⟨_, _, rfl, ?_, ?_⟩
          · rw [hnx, hat]
            have := (g4.same (same_upd ht2)).push ((same_upd ht2) _ _ hxs4) (g4.num ht2 false 1)
            rwa [List.append_assoc] at this
          · rw [hnx, hat, List.length_append, List.length_cons]
            have := invTl_len (t.getD i 0)
            first | (have := this (some true); omega) | (have := this (some false); omega)
      · rw [decide_eq_false (show ¬ (i : Int) < (D.ds.length : Int) by omega)]
        rw [List.getElem?_eq_none (by omega)] at hat
        refine iteF ⟨_, _, rfl, ?_, ?_⟩
        · rw [hnx, hat]
          exact g4
        · rw [hnx, hat, List.length_append, List.length_cons]
          have := invTl_len (t.getD i 0) none
          omega
    · rintro σ H2 ⟨v3, v4, rfl, g, hll⟩
      rw [List.length_map, pr_len hls, wl] at g hll
      refine ⟨_, rfl, fa, inv D t, rfl, g.done.mono fr_same, ?_, ?_, fun H' a s3 ha => q H' a (g.s.trans s3) (ha.mono (fr_wide2 g.s))⟩
      · have := aft_le D
        show before (invTo D t (D.ds.length + 1)) ≤ _
        rw [inv_before, ptr_full wf]
        omega
      · have := inv_rputs D t (D.ds.length + 1)
        show (rputs (invTo D t (D.ds.length + 1))).length ≤ _
        omega
end
end Tc
/-! # The walks: over, + -/
namespace Tc
open PySem PySem.Spec PyProof.Rows L2
/-- the heap that knows nothing -/
def nilH : Hp := fun _ => none
theorem nil_same {H : Hp} : Same nilH H := fun _ _ e => by cases e
theorem nil_fr {H : Hp} : Same H (Fr nilH H) := fun _ _ e => e
section
variable {H Hb H2 H3 : Hp} {fa x y : Addr} {rows : List Row} {r1 r2 : Row} {xs : List V}
theorem FI.push2 (g : FI H Hb fa H2 rows) (h : H2 fa = some (.lst xs)) (hx : RowAt (Fr H (Msk H2 [fa])) x r1) (hy : RowAt (Fr H (Msk H2 [fa])) y r2) : FI H Hb fa (upd H2 fa (.lst (xs ++ [.ref x, .ref y]))) (rows ++ [r1, r2]) := by
  obtain ⟨hb, s1, n, as, h1, h2⟩ := g
  rw [h1] at h
  obtain rfl : as.map V.ref = xs := by cases h; rfl
  refine ⟨hb, same_mut s1 n, n, as ++ [x, y], by rw [upd_same, List.map_append]; rfl, ?_⟩
  rw [msk_mut (by simp)]
  exact pr_app h2 (.cons hx (.cons hy .nil))
end
section
variable {P : Program} {w : World} {K : PySem.W.Frag} {mg : Str → Option Value} {base : Heap} {c : Cs}
theorem gV_get {ds : List Bool} {j : Nat} (h : j ≤ ds.length) : (ds.map V.bl ++ [.non])[j]? = some (gV ds[j]?) := by
  by_cases h2 : j < ds.length
  · rw [List.getElem?_append_left (by simpa using h2), List.getElem?_map, List.getElem?_eq_getElem h2]
    rfl
  · have : j = ds.length := by omega
    subst this
    rw [List.getElem?_append_right (by simp), List.getElem?_eq_none (Nat.le_refl _)]
    simp [gV]
theorem DM.mkw {m qual : Str} {st : Stmt} {N ps : List Str} {k n : Nat} {sp : Sp} {C : Addr} {ks : List Str} (D : DM K C m qual st []) (S : FnScope N ps (defScope st))
    (b : ∀ (kV doc pm : Value) (an : Option Addr) (cdv ct : Value) (us ws : List Value), us.length = n → ws.length = ks.length → bindArgs (PySem.W.fnOf m qual (defArgs st) (defBody st) (defScope st) .none kV doc pm an cdv ct) ⟨us, ks.zip ws⟩ = pure (ps.zip (us ++ ws)))
    (len : ∀ vs H Q E, sp vs H Q E → vs.length = ps.length) (hb : Body P w K mg base k N qual st sp) : MK P w K mg base (k + 1) C m ps n ks (fun vs zs => vs ++ zs) sp := by
  obtain ⟨f, fd, F, hm⟩ := D.ex
  refine ⟨f, fd, fun us ws => us ++ ws, F.okB S len hb, hm, ⟨fun s us ws X l1 l2 => ?_, fun r1 r2 => r1.append r2⟩⟩
  obtain ⟨oc, od, dV, kV, doc, pm, an, cdv, ct, osl, rfl, lk, hcd, hD, hK⟩ := F.ex
  rcases hD with ⟨_, rfl⟩ | ⟨e, _⟩
  · exact .of_eq (b kV doc pm an cdv ct us ws l1 l2)
  · exact absurd rfl e
/- Delta.over: 0 self, 1 other, 2 first, 3 found, 4 gap, 5 chars, 6 beside -/
theorem sc_Delta_over : FnScope ["self", "other", "first", "found", "gap", "chars", "beside"] ["self", "other", "first"] (defScope s_Delta_over) := ⟨rfl, rfl, rfl, by decide +kernel, rfl, by decide +kernel, by decide +kernel⟩
def spDelOver (c : Cs) : Sp := fun vs H Q _ => ∃ (p o : Addr) (D E : Dl) (first : Bool), vs = [.ref p, .ref o, .bl first] ∧ DelAt c H p D ∧ DelAt c H o E ∧ E.ds.length = D.ds.length ∧ D.ds.length ≤ 50000 ∧ D.ps.flatten.length ≤ 50000 ∧ E.ps.flatten.length ≤ 50000 ∧
  ∀ H' a, Same H H' → DelAt c (Fr H H') a (gaps (over D E first)) → Q (.ref a) H'
theorem ok_Delta_over (T : Txt K mg c) (G_need_delta : GF P w K mg base 1 "need_delta" ["value"] (spNeedDelta c)) (G_delta_of : GF P w K mg base 5 "delta_of" ["rows"] (spDeltaOf c)) : MK P w K mg base 6 c.de "over" ["self", "other", "first"] 2 ["first"] (fun vs zs => vs ++ zs) (spDelOver c) := by
  refine T.d_Delta_over.mkw sc_Delta_over (fun _ _ _ _ _ _ us ws h1 h2 => match us, ws, h1, h2 with | [_, _], [_], _, _ => rfl) (fun vs H Q E h => ?_) (fun f cdv A outer s H vs Q E hr h => ?_)
  · obtain ⟨p, o, D, E, first, rfl, _⟩ := h
    rfl
  · obtain ⟨p, o, D, E, first, rfl, hD, hE, hl, hs1, hs2, hs3, q⟩ := h
    have wf := hD.wf
    have wl := wf.ln
    have wfE := hE.wf
    have wlE := wfE.ln
    obtain ⟨dx, r, pa, d, rs, hp, hrs, hg, hlen, ⟨ls, hpa, hls⟩, hds⟩ := id hD
    obtain ⟨ex, er, ea, ed, es, ho, hes, hge, hle, ⟨le, hea, hle2⟩, hed⟩ := id hE
    refine ⟨_, (pss_cons (ps_expr (pe_gf G_need_delta hr (pa_cons (pv 1) pa_nil)))
      (pss_cons (ps_if (pt_cmpR op_ne (pe_fld (pv 1) rfl) (pe_fld (pv 0) rfl) (nomark _)) (pss_one ps_never) pss_nil)
      (pss_cons (ps_if (pt_not (pt_val (pe_callB call_isi (by rfl) T.z_isinstance (by decide +kernel) (pa_cons (pv 2) (pa_cons (pe_bltn (by rfl) T.z_bool (by decide +kernel) (show RelV (.ty "bool") _ from rfl)) pa_nil))))) (pss_one ps_never) pss_nil)
      (pss_cons (ps_set (i := 3) sc_Delta_over.nd rfl (Or.inl rfl) (pe_lst pa_nil))
      (pss_cons (ps_for PassesOwn.never rfl (pi_enum (by rfl) T.z_enumerate (pa_cons (pe_fld (pv 0) rfl) pa_nil)) (pg_tup rfl (pgs_cons (pg_name (i := 4) sc_Delta_over.nd rfl (Or.inl rfl)) (pgs_cons (pg_name (i := 5) sc_Delta_over.nd rfl (Or.inl rfl)) pgs_nil)))
      (pss_cons (ps_set (i := 6) sc_Delta_over.nd rfl (Or.inl rfl) (pe_lst (pa_cons (pe_tup (pa_cons (pe_globE T.s_PUT) (pa_cons (pv 5) pa_nil))) (pa_cons (pe_tup (pa_cons (pe_globE T.s_KEEP) (pa_cons (pe_callB call_len_seq (by rfl) T.z_len (by decide +kernel) (pa_cons (pe_ix ix_list (pe_fld (pv 1) rfl) (pv 4) (fun _ _ => rfl)) pa_nil)) pa_nil))) pa_nil))))
      (pss_cons (ps_expr (pe_bm PySem.F.plainAttrs_list PySem.F.slot_list_extend PySem.F.type_list_extend mt_extend (pv 3) (pa_cons (pe_ifExp (pt_val (pv 2)) (pv 6) (pe_revL (pv 6))) pa_nil)))
      (pss_one (ps_if (PW.pt (pw_and (pt_cmpR op_lt (pv 4) (pe_fld (pv 0) rfl) (nomark _)) (pw_and1 (pt_not (pt_val (pe_ix ix_list (pe_fld (pv 1) rfl) (pv 4) (fun _ _ => rfl))))))) (pss_one (ps_expr (pe_bm PySem.F.plainAttrs_list PySem.F.slot_list_append PySem.F.type_list_append mt_append (pv 3) (pa_cons (pe_tup (pa_cons (pe_ifExp (pt_val (pe_ix ix_list (pe_fld (pv 0) rfl) (pv 4) (fun _ _ => rfl))) (pe_globE T.s_DROP) (pe_globE T.s_KEEP)) (pa_cons pe_int pa_nil))) pa_nil)))) pss_nil)))))
      (pss_one (ps_ret (pe_gf G_delta_of hr (pa_cons (pv 3) pa_nil))))))))), ?_⟩
    refine ⟨_, rfl, o, E, rfl, hE, ?_⟩
    refine ⟨_, rfl, o, c.de, ex, _, _, rfl, ho, T.cl_de, T.n_de_own_before, rfl, _, rfl, p, c.de, dx, _, _, rfl, hp, T.cl_de, T.n_de_own_before, rfl, rfl, _, rfl, ?_⟩
    rw [hl, decide_eq_true rfl]
    refine iteF ?_
    refine ⟨_, rfl, _, _, _, _, true, rfl, .ty _, .base (.bl _), kit_ty (by decide +kernel), true, rfl, iteF ?_⟩
    refine ⟨lk 0 (by decide), fun fa hfa => ?_⟩
    have s1 : Same H (upd H fa (.lst [])) := same_upd hfa
    refine ⟨_, rfl, p, c.de, dx, _, .ref pa, rfl, s1 _ _ hp, T.cl_de, T.n_de_puts, rfl, pa, _, rfl, SqL.of (s1 _ _ hpa),
      for_it (walk_enum (K := K) (a := pa) (xs := ls.map V.ref)) (fun i σ H2 => ∃ v4 v5 v6, σ = [some (.ref p), some (.ref o), some (.bl first), some (.ref fa), v4, v5, v6] ∧ FI nilH H fa H2 (overTo D E first i) ∧ (overTo D E first i).length ≤ 3 * i) ⟨none, none, none, rfl, FI.start nil_same hfa, Nat.le_refl _⟩ ?_ ?_ ?_⟩
    · rintro i σ H2 - ⟨v4, v5, v6, rfl, g, _⟩
      exact SqL.of (g.s _ _ hpa)
    · rintro i x' σ H2 H3 hi ⟨v4, v5, v6, rfl, g, hll⟩ ⟨T0, y1, y2, rfl, hT, rfl, e1, e2⟩
      cases e1
      obtain ⟨l, hll2, rfl⟩ := lmap_at e2
      obtain ⟨cs, hcs, hL⟩ := pr_at2 hls hll2
      rw [List.length_map, pr_len hls] at hi
      have ecs : D.ps.getD i [] = cs := by rw [List.getD_eq_getElem?_getD, hcs]; rfl
      have hEi : E.ps[i]? = some (E.ps.getD i []) := by
        rw [List.getD_eq_getElem?_getD, List.getElem?_eq_getElem (by omega)]
        rfl
      obtain ⟨m, hm, hmL⟩ := pr_at hle2 hEi
      have hnx : overTo D E first (i + 1) = overTo D E first i ++ overAt D E first i := frange_succ _ _
      have hat : overAt D E first i = besides cs (E.ps.getD i []).length first ++ (if E.ds[i]? = some false then [rowOf (D.ds[i]? == some true) 1] else []) := by unfold overAt; rw [ecs]
      rw [hnx, hat]
      have g3 := g.same (same_upd (o := .tup [.int (i : Nat), .ref l]) hT)
      refine ⟨T0, _, rfl, SqT.of upd_same, rfl, _, _, rfl, _, _, rfl, rfl, ?_⟩
      generalize upd H2 T0 (.tup [.int (i : Nat), .ref l]) = H3 at *
      generalize overTo D E first i = R at *
      generalize (E.ps.getD i []) = es1 at *
      -- the two rows beside
      refine seq_join (fun σ H4 => ∃ b t1 t2, σ = [some (.ref p), some (.ref o), some (.bl first), some (.ref fa), some (.int (i : Nat)), some (.ref l), some (.ref b)] ∧ FI nilH H fa H4 R ∧ H4 b = some (.lst [.ref t1, .ref t2]) ∧ RowAt (Fr nilH (Msk H4 [fa])) t1 (.put cs) ∧ RowAt (Fr nilH (Msk H4 [fa])) t2 (.keep es1.length)) (fun N hN => ?_) ?_
      · refine ⟨_, rfl, lk 2 (by decide), fun t1 ht1 => ?_⟩
        have g4 := g3.same (same_upd (o := .tup [.str "put", .ref l]) ht1)
        have r1 := g3.putr ht1 ((hL.mono nil_fr).mono g3.frb)
        refine ⟨_, rfl, o, c.de, ex, _, .ref ea, rfl, g4.s _ _ ho, T.cl_de, T.n_de_puts, rfl, _, rfl, ea, le.map V.ref, (i : Int), .ref m, rfl, rfl, SqL.of (g4.s _ _ hea), atI_of (by rw [List.getElem?_map, hm]; rfl),
          m, _, rfl, .inl (SqL.of (hmL.mono g4.s)), lk 2 (by decide), fun t2 ht2 => ⟨lk 2 (by decide), fun b hb => ?_⟩⟩
        rw [List.length_map] at hb ⊢
        have r2 := g4.num ht2 false es1.length
        have sb := same_upd (o := .lst [.ref t1, .ref t2]) hb
        exact hN _ _ ⟨b, t1, t2, rfl, (g4.same (same_upd ht2)).same sb, upd_same, (r1.mono (fr_next (msk_mono (same_upd ht2)))).mono (fr_next (msk_mono sb)), RowAt.mono (r := .keep es1.length) (fr_next (msk_mono sb)) r2⟩
      rintro σ H4 ⟨b, t1, t2, rfl, g4, hb, r1, r2⟩
      obtain ⟨xs, hxs, hxl⟩ := g4.lst
      refine seq_join (fun σ H5 => σ = [some (.ref p), some (.ref o), some (.bl first), some (.ref fa), some (.int (i : Nat)), some (.ref l), some (.ref b)] ∧ FI nilH H fa H5 (R ++ besides cs es1.length first)) (fun N hN => ?_) ?_
      · refine ⟨_, rfl, .inl ⟨rfl, _, SqL.of hxs⟩, _, rfl, first, rfl, ?_⟩
        have hsz : xs.length + 2 ≤ 16000000 := by omega
        cases first with
        | true =>
          refine iteT ⟨_, rfl, fa, b, xs, _, rfl, rfl, hxs, hb, sz _ hsz, hN _ _ ⟨rfl, ?_⟩⟩
          exact g4.push2 hxs r1 r2
        | false =>
          refine iteF ⟨_, rfl, b, _, rfl, SqL.of hb, fun b2 hb2 => ⟨fa, b2, xs, _, rfl, rfl, (same_upd hb2) _ _ hxs, upd_same, sz _ hsz, hN _ _ ⟨rfl, ?_⟩⟩⟩
          exact (g4.same (same_upd hb2)).push2 ((same_upd hb2) _ _ hxs) (RowAt.mono (r := .keep es1.length) (fr_next (msk_mono (same_upd hb2))) r2) (r1.mono (fr_next (msk_mono (same_upd hb2))))
      rintro σ H5 ⟨rfl, g5⟩
      obtain ⟨ys, hys, hyl⟩ := g5.lst
      have hbl : (besides cs es1.length first).length = 2 := by cases first <;> rfl
      rw [List.length_append, hbl] at hyl
      refine ⟨_, rfl, _, rfl, p, c.de, dx, _, _, rfl, g5.s _ _ hp, T.cl_de, T.n_de_own_before, rfl, _, _, rfl, rfl, _, rfl, ?_⟩
      by_cases hin : i < D.ds.length
      · rw [decide_eq_true (show (i : Int) < (D.ds.length : Int) by omega)]
        have hdi : D.ds[i]? = some (D.ds[i]'hin) := List.getElem?_eq_getElem hin
        have hei : E.ds[i]? = some (E.ds[i]'(by omega)) := List.getElem?_eq_getElem (by omega)
        refine iteT ⟨_, rfl, o, c.de, ex, _, .ref ed, rfl, g5.s _ _ ho, T.cl_de, T.n_de_drops, rfl, _, rfl, ed, E.ds.map V.bl, (i : Int), .bl (E.ds[i]'(by omega)), rfl, rfl, SqL.of (g5.s _ _ hed), atI_of (by rw [List.getElem?_map, hei]; rfl), _, rfl, ?_⟩
        rw [hei]
        cases hb2 : E.ds[i]'(by omega) with
        | true =>
          refine iteF ⟨_, _, _, rfl, ?_, ?_⟩
          · rw [if_neg (by intro z; cases z), List.append_nil]
            exact g5
          · rw [if_neg (by intro z; cases z), List.append_nil, List.length_append, hbl]
            omega
        | false =>
          refine iteT ⟨_, rfl, .inl ⟨rfl, _, SqL.of hys⟩, _, rfl, p, c.de, dx, _, .ref d, rfl, g5.s _ _ hp, T.cl_de, T.n_de_drops, rfl, _, rfl, d, D.ds.map V.bl, (i : Int), .bl (D.ds[i]'hin), rfl, rfl, SqL.of (g5.s _ _ hds), atI_of (by rw [List.getElem?_map, hdi]; rfl), _, rfl, ?_⟩
          rw [if_pos rfl, hdi]
          cases hb3 : D.ds[i]'hin with
          | true =>
            refine iteT ⟨lk 2 (by decide), fun t3 ht3 => ⟨fa, ys, _, rfl, rfl, (same_upd ht3) _ _ hys, szlt _ (by omega), _, _, _, rfl, ?_, ?_⟩⟩
            · have := (g5.same (same_upd ht3)).push ((same_upd ht3) _ _ hys) (g5.num ht3 true 1)
              rwa [List.append_assoc] at this
            · rw [List.length_append, List.length_append, hbl]
              show _ + (2 + 1) ≤ _
              omega
          | false =>
            refine iteF ⟨lk 2 (by decide), fun t3 ht3 => ⟨fa, ys, _, rfl, rfl, (same_upd ht3) _ _ hys, szlt _ (by omega), _, _, _, rfl, ?_, ?_⟩⟩
            · have := (g5.same (same_upd ht3)).push ((same_upd ht3) _ _ hys) (g5.num ht3 false 1)
              rwa [List.append_assoc] at this
            · rw [List.length_append, List.length_append, hbl]
              show _ + (2 + 1) ≤ _
              omega
      · rw [decide_eq_false (show ¬ (i : Int) < (D.ds.length : Int) by omega)]
        rw [List.getElem?_eq_none (show E.ds.length ≤ i by omega), if_neg (by intro z; cases z), List.append_nil]
        exact iteF (iteF ⟨_, _, _, rfl, g5, by rw [List.length_append, hbl]; omega⟩)
    · rintro σ H2 ⟨v4, v5, v6, rfl, g, hll⟩
      rw [List.length_map, pr_len hls, wl] at g hll
      refine ⟨_, rfl, fa, over D E first, rfl, g.done.mono fr_same, ?_, ?_, fun H' a s3 ha => q H' a (g.s.trans s3) (ha.mono (fr_wide2 g.s))⟩
      · have := aft_le E
        show before (overTo D E first (D.ds.length + 1)) ≤ _
        rw [over_before, ← hl, ptr_full wfE]
        omega
      · show (rputs (overTo D E first (D.ds.length + 1))).length ≤ _
        rw [over_rputs, List.take_of_length_le (by omega)]
        omega
/- composed: 0 one, 1 other, 2 later, 3 found, 4 at, 5 chars, 6 is_gone, 7 char, 8 more, 9 is_dropped -/
theorem sc_composed : FnScope ["one", "other", "later", "found", "at", "chars", "is_gone", "char", "more", "is_dropped"] ["one", "other"] (defScope s_composed) := ⟨rfl, rfl, rfl, by decide +kernel, rfl, by decide +kernel, by decide +kernel⟩
theorem bi_composed : BindsB "composed" "composed" s_composed ["one", "other"] := fun _ _ _ _ _ _ us hl => match us, hl with | [_, _], _ => rfl
def spComposed (c : Cs) : Sp := fun vs H Q _ => ∃ (p o : Addr) (D E : Dl), vs = [.ref p, .ref o] ∧ DelAt c H p D ∧ DelAt c H o E ∧ E.ds.length = aft D ∧ D.ds.length ≤ 50000 ∧ D.ps.flatten.length ≤ 50000 ∧ E.ps.flatten.length ≤ 50000 ∧
  ∀ H' a, Same H H' → RowsAt H' a (comp D E) → Q (.ref a) H'
theorem ok_composed (T : Txt K mg c) : GF P w K mg base 1 "composed" ["one", "other"] (spComposed c) := by
  refine T.d_composed.gf sc_composed bi_composed (fun vs H Q E h => ?_) (fun f cdv A outer s H vs Q E hr h => ?_)
  · obtain ⟨p, o, D, E, rfl, _⟩ := h
    rfl
  · obtain ⟨p, o, D, E, rfl, hD, hE, hl, hs1, hs2, hs3, q⟩ := h
    have wf := hD.wf
    have wl := wf.ln
    have wfE := hE.wf
    have wlE := wfE.ln
    have haft := aft_le D
    obtain ⟨dx, r, pa, d, rs, hp, hrs, hg, hlen, ⟨ls, hpa, hls⟩, hds⟩ := id hD
    obtain ⟨ex, er, ea, ed, es, ho, hes, hge, hle, ⟨le, hea, hle2⟩, hed⟩ := id hE
    have llE := pr_len hle2
    refine ⟨_, (pss_cons (ps_set (i := 2) sc_composed.nd rfl (Or.inl rfl) (pe_listZip rfl T.z_list T.z_zip (pa_cons (pe_callTy call_list_of (by rfl) T.z_list (by decide +kernel) (pa_cons (pe_fld (pv 1) rfl) pa_nil)) (pa_cons (pe_op op_cat (pe_callTy call_list_of (by rfl) T.z_list (by decide +kernel) (pa_cons (pe_fld (pv 1) rfl) pa_nil)) (pe_lst (pa_cons pe_non pa_nil))) pa_nil))))
      (pss_cons (ps_set (i := 3) sc_composed.nd rfl (Or.inl rfl) (pe_lst pa_nil))
      (pss_cons (ps_set (i := 4) sc_composed.nd rfl (Or.inl rfl) pe_int)
      (pss_cons (ps_for PassesOwn.never rfl (pi_zip (by rfl) T.z_zip (pa_cons (pe_fld (pv 0) rfl) (pa_cons (pe_op op_cat (pe_callTy call_list_of (by rfl) T.z_list (by decide +kernel) (pa_cons (pe_fld (pv 0) rfl) pa_nil)) (pe_lst (pa_cons pe_non pa_nil))) pa_nil))) (pg_tup rfl (pgs_cons (pg_name (i := 5) sc_composed.nd rfl (Or.inl rfl)) (pgs_cons (pg_name (i := 6) sc_composed.nd rfl (Or.inl rfl)) pgs_nil)))
      (pss_cons (ps_for PassesOwn.never rfl (pi_listN K (pv 5)) (pg_name (i := 7) sc_composed.nd rfl (Or.inl rfl))
      (pss_cons (ps_asg (pe_ix ix_list (pv 2) (pv 4) (fun _ _ => rfl)) (pg_tup rfl (pgs_cons (pg_name (i := 8) sc_composed.nd rfl (Or.inl rfl)) (pgs_cons (pg_name (i := 9) sc_composed.nd rfl (Or.inl rfl)) pgs_nil))))
      (pss_cons (ps_expr (pe_bm PySem.F.plainAttrs_list PySem.F.slot_list_append PySem.F.type_list_append mt_append (pv 3) (pa_cons (pe_tup (pa_cons (pe_globE T.s_PUT) (pa_cons (pv 8) pa_nil))) pa_nil)))
      (pss_cons (ps_expr (pe_bm PySem.F.plainAttrs_list PySem.F.slot_list_append PySem.F.type_list_append mt_append (pv 3) (pa_cons (pe_tup (pa_cons (pe_globE T.s_PUT) (pa_cons (pe_ifExp (pt_truth (pv 9) (fun _ => rfl)) (pe_lst pa_nil) (pe_lst (pa_cons (pv 7) pa_nil))) pa_nil))) pa_nil)))
      (pss_one (ps_set (i := 4) sc_composed.nd rfl (Or.inl rfl) (pe_op op_add (pv 4) pe_int)))))))
      (pss_one (ps_if (pt_truth (pv 6) (fun _ => rfl)) (pss_one (ps_expr (pe_bm PySem.F.plainAttrs_list PySem.F.slot_list_append PySem.F.type_list_append mt_append (pv 3) (pa_cons (pe_tup (pa_cons (pe_globE T.s_DROP) (pa_cons pe_int pa_nil))) pa_nil)))) (pss_cons (ps_asg (pe_ix ix_list (pv 2) (pv 4) (fun _ _ => rfl)) (pg_tup rfl (pgs_cons (pg_name (i := 8) sc_composed.nd rfl (Or.inl rfl)) (pgs_cons (pg_name (i := 9) sc_composed.nd rfl (Or.inl rfl)) pgs_nil))))
      (pss_cons (ps_expr (pe_bm PySem.F.plainAttrs_list PySem.F.slot_list_append PySem.F.type_list_append mt_append (pv 3) (pa_cons (pe_tup (pa_cons (pe_globE T.s_PUT) (pa_cons (pv 8) pa_nil))) pa_nil)))
      (pss_one (ps_if (pt_cmpR op_notN (pv 6) pe_non (nomark _)) (pss_cons (ps_expr (pe_bm PySem.F.plainAttrs_list PySem.F.slot_list_append PySem.F.type_list_append mt_append (pv 3) (pa_cons (pe_tup (pa_cons (pe_ifExp (pt_truth (pv 9) (fun _ => rfl)) (pe_globE T.s_DROP) (pe_globE T.s_KEEP)) (pa_cons pe_int pa_nil))) pa_nil)))
      (pss_one (ps_set (i := 4) sc_composed.nd rfl (Or.inl rfl) (pe_op op_add (pv 4) pe_int)))) pss_nil))))))))
      (pss_one (ps_ret (pv 3))))))), ?_⟩
    refine ⟨_, rfl, o, c.de, ex, _, .ref ea, rfl, ho, T.cl_de, T.n_de_puts, rfl, ea, _, rfl, .inl (SqL.of hea), fun l1 hl1 => ?_⟩
    have s1 := same_upd (H := H) (o := .lst (le.map V.ref)) hl1
    refine ⟨_, rfl, o, c.de, ex, _, .ref ed, rfl, s1 _ _ ho, T.cl_de, T.n_de_drops, rfl, ed, _, rfl, .inl (SqL.of (s1 _ _ hed)), fun l2 hl2 => ?_⟩
    have s2 := s1.trans (same_upd (o := .lst (E.ds.map V.bl)) hl2)
    refine ⟨lk 1 (by decide), fun n1 hn1 => ?_⟩
    have e2 := (same_upd (o := .lst [.non]) hn1) l2 _ upd_same
    refine ⟨l2, n1, E.ds.map V.bl, [.non], rfl, rfl, e2, upd_same, sz _ (by rw [List.length_map]; simp; omega), fun z hz => ?_⟩
    have s3 := (s2.trans (same_upd (o := .lst [.non]) hn1)).trans (same_upd (o := .lst (E.ds.map V.bl ++ [.non])) hz)
    refine ⟨l1, z, le.map V.ref, E.ds.map V.bl ++ [.non], rfl, SqL.of ((same_upd hz) _ _ ((same_upd hn1) _ _ ((same_upd hl2) _ _ upd_same))), SqL.of upd_same, fun la ts H4 s4 hla hts hla4 htl hall => ?_⟩
    have s5 := s3.trans s4
    have hlater : ∀ j, j ≤ E.ds.length → ∃ t m, ts[j]? = some t ∧ H4 t = some (.tup [.ref m, gV E.ds[j]?]) ∧ LAt H4 m (E.ps.getD j []) := fun j hj => by
      have hEi : E.ps[j]? = some (E.ps.getD j []) := by
        rw [List.getD_eq_getElem?_getD, List.getElem?_eq_getElem (by omega)]
        rfl
      obtain ⟨m, hm, hmL⟩ := pr_at hle2 hEi
      have htl2 : ts.length = E.ds.length + 1 := by
        rw [htl]
        simp
        omega
      have h1 : ts[j]? = some (ts[j]'(by omega)) := List.getElem?_eq_getElem (by omega)
      refine ⟨_, m, h1, hall j _ (.ref m) (gV E.ds[j]?) h1 (by rw [List.getElem?_map, hm]; rfl) (gV_get hj), hmL.mono s5⟩
    clear hall htl hts hla
    generalize upd _ z _ = H3 at s4
    clear s4 s3 s2 s1 e2 hz hn1 hl1 hl2
    refine ⟨lk 0 (by decide), fun fa hfa => ?_⟩
    have g0 : FI nilH H4 fa (upd H4 fa (.lst [])) [] := FI.start nil_same hfa
    have f1 := same_upd (H := H4) (o := .lst []) hfa
    refine ⟨_, rfl, p, c.de, dx, _, .ref pa, rfl, f1 _ _ (s5 _ _ hp), T.cl_de, T.n_de_puts, rfl, ?_⟩
    refine ⟨_, rfl, p, c.de, dx, _, .ref d, rfl, f1 _ _ (s5 _ _ hp), T.cl_de, T.n_de_drops, rfl, d, _, rfl, .inl (SqL.of (f1 _ _ (s5 _ _ hds))), fun l3 hl3 => ?_⟩
    refine ⟨lk 1 (by decide), fun n2 hn2 => ?_⟩
    refine ⟨l3, n2, D.ds.map V.bl, [.non], rfl, rfl, (same_upd (o := .lst [.non]) hn2) l3 _ upd_same, upd_same, sz _ (by rw [List.length_map]; simp; omega), fun dz hdz => ?_⟩
    have f2 := (f1.trans (same_upd (o := .lst (D.ds.map V.bl)) hl3)).trans (same_upd (o := .lst [.non]) hn2)
    have g1 := ((g0.same (same_upd (o := .lst (D.ds.map V.bl)) hl3)).same (same_upd (o := .lst [.non]) hn2)).same (same_upd (o := .lst (D.ds.map V.bl ++ [.non])) hdz)
    have nfd : fa ≠ dz := ne_of_none ((same_upd (o := .lst [.non]) hn2) _ _ ((same_upd (o := .lst (D.ds.map V.bl)) hl3) fa _ upd_same)) hdz
    have hdz5 : (upd (upd (upd (upd H4 fa (.lst [])) l3 (.lst (D.ds.map V.bl))) n2 (.lst [.non])) dz (.lst (D.ds.map V.bl ++ [.non]))) dz = some (.lst (D.ds.map V.bl ++ [.non])) := upd_same
    generalize upd (upd (upd (upd H4 fa (.lst [])) l3 (.lst (D.ds.map V.bl))) n2 (.lst [.non])) dz (.lst (D.ds.map V.bl ++ [.non])) = H5 at g1 hdz5 ⊢
    refine ⟨pa, dz, ls.map V.ref, D.ds.map V.bl ++ [.non], rfl, SqL.of (g1.s _ _ (s5 _ _ hpa)), SqL.of hdz5,
      RZ.for_zipL (K := K) (a := pa) (b := dz) (xs := ls.map V.ref) (ys := D.ds.map V.bl ++ [.non]) (by have := pr_len hls; simp; omega) (fun i σ H2 => ∃ v5 v6 v7 v8 v9, σ = [some (.ref p), some (.ref o), some (.ref la), some (.ref fa), some (.int (ptr D i : Nat)), v5, v6, v7, v8, v9] ∧ FI nilH H4 fa H2 (compTo D E i) ∧ H2 dz = some (.lst (D.ds.map V.bl ++ [.non]))) ⟨none, none, none, none, none, rfl, g1, hdz5⟩ ?_ ?_ ?_⟩
    · rintro i σ H2 ⟨v5, v6, v7, v8, v9, rfl, g, hz⟩
      exact ⟨SqL.of (g.s _ _ (s5 _ _ hpa)), SqL.of hz⟩
    · rintro i x y T0 σ H2 hx hy ⟨v5, v6, v7, v8, v9, rfl, g, hz⟩ hT
      obtain ⟨l, hll, rfl⟩ := lmap_at hx
      obtain ⟨rfl, hi⟩ := gV_at hy
      obtain ⟨cs, hcs, hL⟩ := pr_at2 hls hll
      have ecs : D.ps.getD i [] = cs := by rw [List.getD_eq_getElem?_getD, hcs]; rfl
      have hlen := compTo_len D E i
      have hp1 : ptr D (i + 1) = ptr D i + cs.length + (if D.ds[i]? = some false then 1 else 0) := by rw [← ecs]; rfl
      have hpm := ptr_mono D (show i + 1 ≤ D.ds.length + 1 by omega)
      rw [ptr_full wf, ← hl] at hpm
      have hnx : compTo D E (i + 1) = compTo D E i ++ (ccTo E (ptr D i) cs cs.length ++ compTl E (ptr D i + cs.length) D.ds[i]?) := by
        show (List.range (i + 1)).flatMap _ = _
        rw [frange_succ]
        show compTo D E i ++ compAt D E i = _
        unfold compAt compCs
        rw [ecs]
      rw [hnx]
      have hci : (ptr D (i + 1) : Int) = (ptr D i : Int) + cs.length + (if D.ds[i]? = some false then 1 else 0) := by
        rw [hp1]
        split <;> simp
      rw [hci]
      have hgn : D.ds[i]? = some false → ptr D i + cs.length < E.ds.length := fun e => by
        rw [if_pos e] at hp1
        omega
      have hpe : ptr D i + cs.length ≤ E.ds.length := by omega
      clear hpm hp1 hci hx hy
      generalize compTo D E i = R at *
      generalize ptr D i = P0 at *
      generalize D.ds[i]? = gi at *
      refine ⟨T0, _, rfl, SqT.of upd_same, rfl, _, _, rfl, _, _, rfl, rfl, ?_⟩
      have g1 := g.same (same_upd (o := .tup [.ref l, gV gi]) hT)
      have hz1 := (same_upd (o := .tup [.ref l, gV gi]) hT) _ _ hz
      generalize upd H2 T0 (.tup [.ref l, gV gi]) = H3 at *
      refine seq_join (fun σ H6 => ∃ v7 v8 v9, σ = [some (.ref p), some (.ref o), some (.ref la), some (.ref fa), some (.int ((P0 + cs.length : Nat))), some (.ref l), some (gV gi), v7, v8, v9] ∧ FI nilH H4 fa H6 (R ++ ccTo E P0 cs cs.length) ∧ H6 dz = some (.lst (D.ds.map V.bl ++ [.non]))) (fun N hN => ?_) ?_
      · have hcl : cs.length ≤ 100000 := by omega
        refine ⟨_, rfl, l, rfl, ⟨_, SqL.of (g1.s _ _ (hL.mono s5))⟩, for_list (K := K) (a := l) (xs := cs.map V.int) (fun j σ H7 => ∃ v7 v8 v9, σ = [some (.ref p), some (.ref o), some (.ref la), some (.ref fa), some (.int ((P0 + j : Nat))), some (.ref l), some (gV gi), v7, v8, v9] ∧ FI nilH H4 fa H7 (R ++ ccTo E P0 cs j) ∧ H7 dz = some (.lst (D.ds.map V.bl ++ [.non]))) ⟨_, _, _, rfl, by rw [show ccTo E P0 cs 0 = [] from rfl, List.append_nil]; exact g1, hz1⟩ ?_ ?_ ?_⟩
        · rintro j σ H7 - ⟨v7, v8, v9, rfl, g7, _⟩
          exact SqL.of (g7.s _ _ (hL.mono s5))
        · rintro j x σ H7 hx ⟨v7, v8, v9, rfl, g7, hz7⟩
          obtain ⟨y, hy, rfl⟩ := map_at_int hx
          have hj := (List.getElem?_eq_some_iff.mp hy).1
          obtain ⟨t, m, ht, htc, hm⟩ := hlater (P0 + j) (by omega)
          have hcc : ccTo E P0 cs (j + 1) = ccTo E P0 cs j ++ [.put (E.ps.getD (P0 + j) []), .put (if E.ds[P0 + j]? = some true then [] else [y])] := by
            show (List.range (j + 1)).flatMap _ = _
            rw [frange_succ]
            show ccTo E P0 cs j ++ ccAt E P0 cs j = _
            unfold ccAt
            rw [List.getD_eq_getElem?_getD (l := cs), hy]
            rfl
          rw [hcc]
          have hccl := ccTo_len E P0 cs j
          generalize ccTo E P0 cs j = S at *
          generalize hEp : E.ps.getD (P0 + j) [] = ep at *
          generalize hEd : E.ds[P0 + j]? = ge at *
          refine seq_join (fun σ H8 => σ = [some (.ref p), some (.ref o), some (.ref la), some (.ref fa), some (.int ((P0 + j : Nat))), some (.ref l), some (gV gi), some (.int y), some (.ref m), some (gV ge)] ∧ H8 = H7) (fun N hN => ⟨_, rfl, _, rfl, la, ts.map V.ref, ((P0 + j : Nat) : Int), .ref t, rfl, rfl, SqL.of (g7.s _ _ hla4), atI_of (by rw [List.getElem?_map, ht]; rfl), t, _, rfl, SqT.of (g7.s _ _ htc), rfl, _, _, rfl, _, _, rfl, rfl, hN _ _ ⟨rfl, rfl⟩⟩) ?_
          rintro σ H8 ⟨rfl, rfl⟩
          obtain ⟨xs, hxs, hxl⟩ := g7.lst
          rw [List.length_append] at hxl
          refine seq_join (fun σ H8 => σ = [some (.ref p), some (.ref o), some (.ref la), some (.ref fa), some (.int ((P0 + j : Nat))), some (.ref l), some (gV gi), some (.int y), some (.ref m), some (gV ge)] ∧ FI nilH H4 fa H8 (R ++ S ++ [.put ep]) ∧ H8 dz = some (.lst (D.ds.map V.bl ++ [.non]))) (fun N hN => ?_) ?_
          · refine ⟨_, rfl, .inl ⟨rfl, _, SqL.of hxs⟩, _, rfl, lk 2 (by decide), fun t1 ht1 => ⟨fa, xs, _, rfl, rfl, (same_upd ht1) _ _ hxs, szlt _ (by omega), hN _ _ ⟨rfl, ?_, ?_⟩⟩⟩
            · exact (g7.same (same_upd ht1)).push ((same_upd ht1) _ _ hxs) (g7.putr ht1 ((hm.mono nil_fr).mono g7.frb))
            · rw [upd_ne nfd.symm]
              exact (same_upd ht1) _ _ hz7
          clear hxs hxl xs
          rintro σ H8 ⟨rfl, g8, hz8⟩
          obtain ⟨xs, hxs, hxl⟩ := g8.lst
          rw [List.length_append, List.length_append, List.length_singleton] at hxl
          refine seq_join (fun σ H9 => σ = [some (.ref p), some (.ref o), some (.ref la), some (.ref fa), some (.int ((P0 + j : Nat))), some (.ref l), some (gV gi), some (.int y), some (.ref m), some (gV ge)] ∧ FI nilH H4 fa H9 (R ++ S ++ [.put ep, .put (if ge = some true then [] else [y])]) ∧ H9 dz = some (.lst (D.ds.map V.bl ++ [.non]))) (fun N hN => ?_) ?_
          · refine ⟨_, rfl, .inl ⟨rfl, _, SqL.of hxs⟩, _, rfl, ge == some true, ?_, ?_⟩
            · cases ge with
              | none => rfl
              | some b => cases b <;> rfl
            have fin : ∀ (cs2 : List Int), (if ge = some true then [] else [y]) = cs2 → ∀ e, H8 e = none → ∀ t2, upd H8 e (.lst (cs2.map V.int)) t2 = none →
                FI nilH H4 fa (upd (upd (upd H8 e (.lst (cs2.map V.int))) t2 (.tup [.str "put", .ref e])) fa (.lst (xs ++ [.ref t2]))) (R ++ S ++ [.put ep, .put (if ge = some true then [] else [y])]) ∧ upd (upd (upd H8 e (.lst (cs2.map V.int))) t2 (.tup [.str "put", .ref e])) fa (.lst (xs ++ [.ref t2])) dz = some (.lst (D.ds.map V.bl ++ [.non])) := fun cs2 hcs2 e he t2 ht2 => by
              rw [hcs2]
              have g9 := g8.same (same_upd (o := .lst (cs2.map V.int)) he)
              have hh := g8.notfa he
              refine ⟨?_, ?_⟩
              · have := (g9.same (same_upd ht2)).push ((same_upd ht2) _ _ ((same_upd he) _ _ hxs)) (g9.putr (cs := cs2) ht2 (by
                  show Fr nilH _ e = some (.lst (cs2.map V.int))
                  unfold Fr
                  rw [if_pos hh.2, msk_at (by simpa using hh.1), upd_same]))
                rwa [List.append_assoc (R ++ S)] at this
              · rw [upd_ne nfd.symm]
                exact (same_upd ht2) _ _ ((same_upd he) _ _ hz8)
            cases hge : (ge == some true) with
            | true =>
              have h2 : ge = some true := eq_of_beq hge
              refine iteT ⟨lk 0 (by decide), fun e he => ⟨lk 2 (by decide), fun t2 ht2 => ⟨fa, xs, _, rfl, rfl, (same_upd ht2) _ _ ((same_upd he) _ _ hxs), szlt _ (by omega), ?_⟩⟩⟩
              have := fin [] (by rw [if_pos h2]) e he t2 ht2
              exact hN _ _ ⟨rfl, this⟩
            | false =>
              have h2 : ge ≠ some true := fun z => by rw [z] at hge; cases hge
              refine iteF ⟨_, rfl, lk 1 (by decide), fun e he => ⟨lk 2 (by decide), fun t2 ht2 => ⟨fa, xs, _, rfl, rfl, (same_upd ht2) _ _ ((same_upd he) _ _ hxs), szlt _ (by omega), ?_⟩⟩⟩
              have := fin [y] (by rw [if_neg h2]) e he t2 ht2
              exact hN _ _ ⟨rfl, this⟩
          rintro σ H9 ⟨rfl, g9, hz9⟩
          refine ⟨_, rfl, _, _, rfl, rfl, some (.int y), some (.ref m), some (gV ge), rfl, ?_, hz9⟩
          rw [← List.append_assoc]
          exact g9
        · rintro σ H7 ⟨v7, v8, v9, rfl, g7, hz7⟩
          rw [List.length_map] at g7
          refine hN _ _ ⟨v7, v8, v9, ?_, g7, hz7⟩
          rw [List.length_map]
      rintro σ H6 ⟨v7, v8, v9, rfl, g6, hz6⟩
      rw [← List.append_assoc]
      have hccl := ccTo_len E P0 cs cs.length
      generalize ccTo E P0 cs cs.length = S at *
      obtain ⟨xs, hxs, hxl⟩ := g6.lst
      rw [List.length_append] at hxl
      have num1 : ∀ b : Bool, ∀ t1, H6 t1 = none → FI nilH H4 fa (upd (upd H6 t1 (.tup [.str (kdw b), .int (1 : Nat)])) fa (.lst (xs ++ [.ref t1]))) (R ++ S ++ [rowOf b 1]) ∧ upd (upd H6 t1 (.tup [.str (kdw b), .int (1 : Nat)])) fa (.lst (xs ++ [.ref t1])) dz = some (.lst (D.ds.map V.bl ++ [.non])) := fun b t1 ht1 => by
        refine ⟨(g6.same (same_upd ht1)).push ((same_upd ht1) _ _ hxs) (g6.num ht1 b 1), ?_⟩
        rw [upd_ne nfd.symm]
        exact (same_upd ht1) _ _ hz6
      refine ⟨_, rfl, gi == some true, ?_, ?_⟩
      · cases gi with
        | none => rfl
        | some b => cases b <;> rfl
      cases hgt : (gi == some true) with
      | true =>
        have e : gi = some true := eq_of_beq hgt
        refine iteT ⟨_, rfl, .inl ⟨rfl, _, SqL.of hxs⟩, lk 2 (by decide), fun t1 ht1 => ⟨fa, xs, _, rfl, rfl, (same_upd ht1) _ _ hxs, szlt _ (by omega), ?_⟩⟩
        obtain ⟨n1, n2⟩ := num1 true t1 ht1
        refine ⟨some (.ref l), some (gV gi), v7, v8, v9, ?_, ?_, n2⟩
        · rw [e, if_neg (by intro z; cases z), Int.add_zero]
          rfl
        · rw [e]
          exact n1
      | false =>
        refine iteF ?_
        obtain ⟨t, m, ht, htc, hm⟩ := hlater (P0 + cs.length) hpe
        have hgn2 : gi ≠ some true := fun z => by rw [z] at hgt; cases hgt
        have hTl : compTl E (P0 + cs.length) gi = .put (E.ps.getD (P0 + cs.length) []) :: (if gi.isSome then [rowOf (E.ds[P0 + cs.length]? == some true) 1] else []) := by
          match gi, hgn2 with
          | none, _ => rfl
          | some false, _ => rfl
        rw [hTl]
        clear hTl hlater
        generalize hEp : E.ps.getD (P0 + cs.length) [] = ep at *
        generalize hEd : E.ds[P0 + cs.length]? = ge at *
        refine seq_join (fun σ H8 => σ = [some (.ref p), some (.ref o), some (.ref la), some (.ref fa), some (.int ((P0 + cs.length : Nat))), some (.ref l), some (gV gi), v7, some (.ref m), some (gV ge)] ∧ H8 = H6) (fun N hN => ⟨_, rfl, _, rfl, la, ts.map V.ref, ((P0 + cs.length : Nat) : Int), .ref t, rfl, rfl, SqL.of (g6.s _ _ hla4), atI_of (by rw [List.getElem?_map, ht]; rfl), t, _, rfl, SqT.of (g6.s _ _ htc), rfl, _, _, rfl, _, _, rfl, rfl, hN _ _ ⟨rfl, rfl⟩⟩) ?_
        rintro σ H8 ⟨rfl, rfl⟩
        refine seq_join (fun σ H9 => σ = [some (.ref p), some (.ref o), some (.ref la), some (.ref fa), some (.int ((P0 + cs.length : Nat))), some (.ref l), some (gV gi), v7, some (.ref m), some (gV ge)] ∧ FI nilH H4 fa H9 (R ++ S ++ [.put ep]) ∧ H9 dz = some (.lst (D.ds.map V.bl ++ [.non]))) (fun N hN => ?_) ?_
        · refine ⟨_, rfl, .inl ⟨rfl, _, SqL.of hxs⟩, _, rfl, lk 2 (by decide), fun t1 ht1 => ⟨fa, xs, _, rfl, rfl, (same_upd ht1) _ _ hxs, szlt _ (by omega), hN _ _ ⟨rfl, ?_, ?_⟩⟩⟩
          · exact (g6.same (same_upd ht1)).push ((same_upd ht1) _ _ hxs) (g6.putr ht1 ((hm.mono nil_fr).mono g6.frb))
          · rw [upd_ne nfd.symm]
            exact (same_upd ht1) _ _ hz6
        clear num1 hxs hxl xs
        rintro σ H9 ⟨rfl, g9, hz9⟩
        obtain ⟨xs, hxs, hxl⟩ := g9.lst
        rw [List.length_append, List.length_append, List.length_singleton] at hxl
        refine ⟨_, rfl, rfl, _, rfl, ?_⟩
        have hni : (!decide (gV gi = V.non)) = gi.isSome := by
          cases gi with
          | none => rfl
          | some b => rfl
        rw [hni]
        cases hgs : gi.isSome with
        | false =>
          have e : gi = none := by cases gi with
            | none => rfl
            | some b => cases hgs
          refine iteF ⟨some (.ref l), some (gV gi), v7, some (.ref m), some (gV ge), ?_, ?_, hz9⟩
          · rw [e, if_neg (by intro z; cases z), Int.add_zero]
            rfl
          · exact g9
        | true =>
          have e : gi = some false := by
            match gi, hgs, hgn2 with
            | some false, _, _ => rfl
          have fin : ∀ b : Bool, ∀ t1, H9 t1 = none → FI nilH H4 fa (upd (upd H9 t1 (.tup [.str (kdw b), .int (1 : Nat)])) fa (.lst (xs ++ [.ref t1]))) (R ++ S ++ [.put ep, rowOf b 1]) ∧ upd (upd H9 t1 (.tup [.str (kdw b), .int (1 : Nat)])) fa (.lst (xs ++ [.ref t1])) dz = some (.lst (D.ds.map V.bl ++ [.non])) := fun b t1 ht1 => by
            refine ⟨?_, ?_⟩
            · have := (g9.same (same_upd ht1)).push ((same_upd ht1) _ _ hxs) (g9.num ht1 b 1)
              rwa [List.append_assoc (R ++ S)] at this
            · rw [upd_ne nfd.symm]
              exact (same_upd ht1) _ _ hz9
          refine iteT ⟨_, rfl, .inl ⟨rfl, _, SqL.of hxs⟩, _, rfl, ge == some true, ?_, ?_⟩
          · cases ge with
            | none => rfl
            | some b => cases b <;> rfl
          rw [if_pos e]
          cases hge : (ge == some true) with
          | true =>
            refine iteT ⟨lk 2 (by decide), fun t1 ht1 => ⟨fa, xs, _, rfl, rfl, (same_upd ht1) _ _ hxs, szlt _ (by omega), _, rfl, _, _, rfl, rfl, ?_⟩⟩
            obtain ⟨n1, n2⟩ := fin true t1 ht1
            exact ⟨some (.ref l), some (gV gi), v7, some (.ref m), some (gV ge), rfl, n1, n2⟩
          | false =>
            refine iteF ⟨lk 2 (by decide), fun t1 ht1 => ⟨fa, xs, _, rfl, rfl, (same_upd ht1) _ _ hxs, szlt _ (by omega), _, rfl, _, _, rfl, rfl, ?_⟩⟩
            obtain ⟨n1, n2⟩ := fin false t1 ht1
            exact ⟨some (.ref l), some (gV gi), v7, some (.ref m), some (gV ge), rfl, n1, n2⟩
    · rintro σ H2 ⟨v5, v6, v7, v8, v9, rfl, g, hz⟩
      rw [List.length_map, pr_len hls, wl] at g
      exact ⟨_, rfl, q _ fa (s5.trans g.s) (g.done.mono fr_same)⟩
/- Delta.__add__: 0 self, 1 other -/
theorem sc_Delta_add : FnScope ["self", "other"] ["self", "other"] (defScope s_Delta_add) := ⟨rfl, rfl, rfl, by decide +kernel, rfl, by decide +kernel, by decide +kernel⟩
theorem bi_Delta_add : BindsB "__add__" "Delta.__add__" s_Delta_add ["self", "other"] := fun _ _ _ _ _ _ us hl => match us, hl with | [_, _], _ => rfl
def spDelAdd (c : Cs) : Sp := fun vs H Q _ => ∃ (p o : Addr) (D E : Dl), vs = [.ref p, .ref o] ∧ DelAt c H p D ∧ DelAt c H o E ∧ E.ds.length = aft D ∧ D.ds.length ≤ 50000 ∧ D.ps.flatten.length ≤ 50000 ∧ E.ps.flatten.length ≤ 50000 ∧
  ∀ H' a, Same H H' → DelAt c (Fr H H') a (gaps (comp D E)) → Q (.ref a) H'
theorem ok_Delta_add (T : Txt K mg c) (G_need_delta : GF P w K mg base 1 "need_delta" ["value"] (spNeedDelta c)) (G_delta_of : GF P w K mg base 5 "delta_of" ["rows"] (spDeltaOf c)) (G_composed : GF P w K mg base 1 "composed" ["one", "other"] (spComposed c)) : SF P w K mg base 6 c.de "__add__" (spDelAdd c) := by
  refine T.d_Delta_add.sf T.sf_de sc_Delta_add bi_Delta_add (fun vs H Q E h => ?_) (fun f cdv A outer s H vs Q E hr h => ?_)
  · obtain ⟨p, o, D, E, rfl, _⟩ := h
    rfl
  · obtain ⟨p, o, D, E, rfl, hD, hE, hl, hs1, hs2, hs3, q⟩ := h
    have wf := hD.wf
    have wfE := hE.wf
    have wlE := wfE.ln
    obtain ⟨dx, r, pa, d, rs, hp, hrs, hg, hlen, ⟨ls, hpa, hls⟩, hds⟩ := id hD
    obtain ⟨ex, er, ea, ed, es, ho, hes, hge, hle, ⟨le, hea, hle2⟩, hed⟩ := id hE
    refine ⟨_, (pss_cons (ps_expr (pe_gf G_need_delta hr (pa_cons (pv 1) pa_nil)))
      (pss_cons (ps_if (pt_cmpR op_ne (pe_fld (pv 1) rfl) (pe_fld (pv 0) rfl) (nomark _)) (pss_one ps_never) pss_nil)
      (pss_one (ps_ret (pe_gf G_delta_of hr (pa_cons (pe_gf G_composed hr (pa_cons (pv 0) (pa_cons (pv 1) pa_nil))) pa_nil)))))), ?_⟩
    refine ⟨_, rfl, o, E, rfl, hE, ?_⟩
    refine ⟨_, rfl, o, c.de, ex, _, _, rfl, ho, T.cl_de, T.n_de_own_before, rfl, _, rfl, p, c.de, dx, _, _, rfl, hp, T.cl_de, T.n_de_own_after, rfl, rfl, _, rfl, ?_⟩
    rw [hl, decide_eq_true rfl]
    refine iteF ⟨_, rfl, _, rfl, p, o, D, E, rfl, hD, hE, hl, hs1, hs2, hs3, fun H1 a s1 ha => ⟨a, comp D E, rfl, ha, ?_, ?_, fun H' b s2 hb => q H' b (s1.trans s2) (hb.mono (fr_wide2 s1))⟩⟩
    · have := compTo_before D E (D.ds.length + 1)
      show before (compTo D E (D.ds.length + 1)) ≤ _
      omega
    · have := mu_comp (μ := List.length) (fun a b => List.length_append) (D := D) (E := E) wf
      rw [ptr_full wf, List.take_of_length_le (by omega)] at this
      omega
end
end Tc
/-! # The plain law, part 4: counts of characters; rows that count -/
namespace Tc
def numAt (f : Int → Nat) (t : List Int) (i : Nat) : Nat := ((t.take i).map f).sum
def crow (f : Int → Nat) (t : List Int) (p : Nat) : Row → Row
  | .keep n => .keep (numAt f t (p + n) - numAt f t p)
  | .drop n => .drop (numAt f t (p + n) - numAt f t p)
  | .put cs => .put cs
def crows (f : Int → Nat) (t : List Int) : Nat → List Row → List Row
  | _, [] => []
  | p, r :: rs => crow f t p r :: crows f t (p + r.ln) rs
section
variable {f : Int → Nat} {t : List Int}
theorem numAt_succ {i : Nat} (h : i < t.length) : numAt f t (i + 1) = numAt f t i + f (t.getD i 0) := by
  unfold numAt
  have e : t[i]? = some t[i] := List.getElem?_eq_getElem h
  rw [take_snoc e, List.map_append, List.sum_append, List.getD_eq_getElem?_getD, e]
  simp
theorem numAt_lt (h1 : ∀ x, 1 ≤ f x) {i j : Nat} (h : i < j) (hj : j ≤ t.length) : numAt f t i < numAt f t j := by
  induction j with
  | zero => omega
  | succ j ih =>
    rw [numAt_succ (by omega)]
    have := h1 (t.getD j 0)
    by_cases e : i = j
    · rw [e]; omega
    · have := ih (by omega) (by omega)
      omega
theorem numAt_le (h1 : ∀ x, 1 ≤ f x) {i j : Nat} (h : i ≤ j) (hj : j ≤ t.length) : numAt f t i ≤ numAt f t j := by
  by_cases e : i = j
  · rw [e]; exact Nat.le_refl _
  · exact Nat.le_of_lt (numAt_lt h1 (by omega) hj)
theorem numAt_inj (h1 : ∀ x, 1 ≤ f x) {i j : Nat} (hi : i ≤ t.length) (hj : j ≤ t.length) (e : numAt f t i = numAt f t j) : i = j := by
  rcases Nat.lt_trichotomy i j with h | h | h
  · have := numAt_lt h1 h hj; omega
  · exact h
  · have := numAt_lt h1 h hi; omega
theorem numAt_max (h4 : ∀ x, f x ≤ 4) : ∀ i, i ≤ t.length → numAt f t i ≤ 4 * i
  | 0, _ => Nat.le_refl _
  | i + 1, h => by
    have := numAt_max h4 i (by omega)
    have := h4 (t.getD i 0)
    rw [numAt_succ (by omega)]
    omega
theorem crows_len : ∀ (rs : List Row) (p : Nat), (crows f t p rs).length = rs.length
  | [], _ => rfl
  | _ :: rs, p => congrArg (· + 1) (crows_len rs _)
theorem crows_at : ∀ (rs : List Row) (p i : Nat) {r : Row}, rs[i]? = some r → (crows f t p rs)[i]? = some (crow f t (p + before (rs.take i)) r)
  | [], _, _, _, h => by simp at h
  | a :: rs, p, 0, r, h => by
    have e : a = r := by simpa using h
    subst e
    rfl
  | a :: rs, p, i + 1, r, h => by
    have := crows_at rs (p + a.ln) i (r := r) (by simpa using h)
    show (crows f t (p + a.ln) rs)[i]? = _
    rw [this]
    show some (crow f t (p + a.ln + before (rs.take i)) r) = some (crow f t (p + (a.ln + before (rs.take i))) r)
    rw [Nat.add_assoc]
theorem before_take {rs : List Row} {i : Nat} {r : Row} (h : rs[i]? = some r) : before (rs.take (i + 1)) = before (rs.take i) + r.ln := by
  rw [take_snoc h, before_append]
  rfl
theorem before_le (rs : List Row) (i : Nat) : before (rs.take i) ≤ before rs := by
  have : before rs = before (rs.take i) + before (rs.drop i) := by rw [← before_append, List.take_append_drop]
  omega
end
/-! ## The rows of one edit: n characters, those from b to l go, cs comes in at b -/
def edAt (b l n : Nat) (cs : List Int) (g : Nat) : List Row := .put (if g = b then cs else []) :: (if g < n then [rowOf (decide (b ≤ g ∧ g < l)) 1] else [])
def edTo (b l n : Nat) (cs : List Int) (k : Nat) : List Row := (List.range k).flatMap (edAt b l n cs)
def ed (b l n : Nat) (cs : List Int) : List Row := edTo b l n cs (n + 1)
theorem ed_before (b l n : Nat) (cs : List Int) : ∀ k, before (edTo b l n cs k) = min k n
  | 0 => by simp [edTo, before]
  | k + 1 => by
    show before ((List.range (k + 1)).flatMap _) = _
    rw [frange_succ, before_append]
    show before (edTo b l n cs k) + (0 + before (if k < n then [rowOf (decide (b ≤ k ∧ k < l)) 1] else [])) = _
    rw [ed_before b l n cs k]
    by_cases h : k < n
    · rw [if_pos h, rowOf_before]
      omega
    · rw [if_neg h]
      show _ + (0 + 0) = _
      omega
theorem ed_rputs (b l n : Nat) (cs : List Int) : ∀ k, rputs (edTo b l n cs k) = if b < k then cs else []
  | 0 => rfl
  | k + 1 => by
    show rputs ((List.range (k + 1)).flatMap _) = _
    rw [frange_succ, rputs_append]
    show rputs (edTo b l n cs k) ++ ((if k = b then cs else []) ++ rputs (if k < n then [rowOf (decide (b ≤ k ∧ k < l)) 1] else [])) = _
    have e : rputs (if k < n then [rowOf (decide (b ≤ k ∧ k < l)) 1] else []) = [] := by
      split
      · exact rowOf_rputs _ _
      · rfl
    rw [ed_rputs b l n cs k, e, List.append_nil]
    by_cases h1 : b < k
    · rw [if_pos h1, if_neg (by omega), if_pos (by omega), List.append_nil]
    · rw [if_neg h1]
      by_cases h2 : k = b
      · rw [if_pos h2, if_pos (by omega)]
        rfl
      · rw [if_neg h2, if_neg (by omega)]
        rfl
end Tc
/-! # The walks: marks, counts -/
namespace Tc
open PySem PySem.Spec PyProof.Rows L2
theorem wd1 (k : Kd) (x : Int) : 1 ≤ wd k x := by
  cases k <;> simp only [wd] <;> omega
theorem wd4 (k : Kd) (x : Int) : wd k x ≤ 4 := by
  cases k <;> simp only [wd] <;> (repeat' split) <;> omega
def nums (k : Kd) (t : List Int) : List Int := (List.range (t.length + 1)).map fun i => (numAt (wd k) t i : Int)
def plc (k : Kd) (t : List Int) (n : Nat) : List (Key × V) := (List.range n).map fun i => (.inl (numAt (wd k) t i : Int), .int (i : Nat))
theorem nums_at {k : Kd} {t : List Int} {i : Nat} (h : i ≤ t.length) : (nums k t)[i]? = some (numAt (wd k) t i : Int) := by
  unfold nums
  rw [List.getElem?_map, List.getElem?_range (by omega)]
  rfl
theorem nums_len (k : Kd) (t : List Int) : (nums k t).length = t.length + 1 := by simp [nums]
theorem plc_put {k : Kd} {t : List Int} {n : Nat} (h : n ≤ t.length) : putK (plc k t n) (.inl (numAt (wd k) t n : Int)) (.int (n : Nat)) = plc k t (n + 1) := by
  unfold putK
  rw [if_neg]
  · unfold plc
    rw [List.range_succ, List.map_append]
    rfl
  · intro z
    obtain ⟨kv, hkv, e⟩ := List.any_eq_true.mp z
    obtain ⟨i, hi, rfl⟩ := List.mem_map.mp hkv
    have hi := List.mem_range.mp hi
    have e2 := of_decide_eq_true e
    have e3 : (numAt (wd k) t i : Int) = (numAt (wd k) t n : Int) := Sum.inl.inj e2
    have := numAt_lt (f := wd k) (t := t) (wd1 k) hi h
    omega
theorem valV_map {k : Kd} {t : List Int} {n i : Nat} (h : n ≤ t.length + 1) (hi : i < n) : valV (plc k t n) (.inl (numAt (wd k) t i : Int)) = some (.int (i : Nat)) := by
  induction n with
  | zero => omega
  | succ n ih =>
    have e : plc k t (n + 1) = plc k t n ++ [(.inl (numAt (wd k) t n : Int), .int (n : Nat))] := by
      unfold plc
      rw [List.range_succ, List.map_append]
      rfl
    rw [e]
    unfold valV at ih ⊢
    rw [List.find?_append]
    by_cases h2 : i < n
    · have := ih (by omega) h2
      obtain ⟨kv, h3, h4⟩ := Option.map_eq_some_iff.mp this
      rw [h3]
      show some kv.2 = _
      rw [h4]
    · have : i = n := by omega
      subst this
      have hn : (plc k t i).find? (fun kv => decide (kv.1 = .inl (numAt (wd k) t i : Int))) = none := by
        rw [List.find?_eq_none]
        intro kv hkv z
        obtain ⟨j, hj, rfl⟩ := List.mem_map.mp hkv
        have hj := List.mem_range.mp hj
        have e3 : (numAt (wd k) t j : Int) = (numAt (wd k) t i : Int) := Sum.inl.inj (of_decide_eq_true z)
        have := numAt_lt (f := wd k) (t := t) (wd1 k) hj (by omega)
        omega
      rw [hn]
      simp [List.find?_cons]
theorem atI_neg1 {α : Type} {l : List α} {x : α} (h : l[l.length - 1]? = some x) : atI l (-1) = some x := by
  have hl : 0 < l.length := by
    cases l with
    | nil => simp at h
    | cons _ _ => simp
  unfold atI ixN
  rw [if_neg (by omega), if_pos (by omega)]
  show l[(-1 + (l.length : Int)).toNat]? = _
  rw [show (-1 + (l.length : Int)).toNat = l.length - 1 by omega]
  exact h
theorem dc_it {J : It} {n : Nat} {G : Hp → Prop} {Y : Nat → Hp → V → Hp → Prop} (w : Walk J n G Y) {g : TG} {tt : TT} {tk tv : TE} {vs : List Nat} {σ : L2.St} {H1 : Hp} {D : Addr} {Qd : Hp → Prop} (Pv : Nat → Hp → Prop) (h0 : Pv 0 (upd H1 D (.dK []))) (hG : ∀ i H, i ≤ n → Pv i H → G H)
    (hs : ∀ i x H H', i < n → Pv i H → Y i H x H' → g x (wipe σ vs) H' fun σ2 H2 => wipe σ2 vs = wipe σ vs ∧ tt σ2 H2 fun b H3 =>
      if b = true then tk σ2 H3 fun y H4 => tv σ2 H4 fun z H5 => ∃ kvs k, y = kV k ∧ H5 D = some (.dK kvs) ∧ kvs.length < sizeLine ∧ Pv (i + 1) (upd H5 D (.dK (putK kvs k z))) else Pv (i + 1) H3) (hd : ∀ H, Pv n H → Qd H) :
    ∃ W : Nat → Nat → Hp → Prop, (∃ m, W 0 m (upd H1 D (.dK []))) ∧ ∀ i m H, W i m H →
      (J.stop i H ∧ Qd H) ∨ (J.go i H ∧ ∃ Nx : Hp → Prop, (∀ H', Nx H' → ∃ m', m' < m ∧ W (i + 1) m' H') ∧ ∀ x H', J.yld i H x H' → g x (wipe σ vs) H' fun σ2 H2 => wipe σ2 vs = wipe σ vs ∧ tt σ2 H2 fun b H3 =>
        if b = true then tk σ2 H3 fun y H4 => tv σ2 H4 fun z H5 => ∃ kvs k, y = kV k ∧ H5 D = some (.dK kvs) ∧ kvs.length < sizeLine ∧ Nx (upd H5 D (.dK (putK kvs k z))) else Nx H3) := by
  refine ⟨fun i m H => m = n - i ∧ i ≤ n ∧ Pv i H, ⟨n, by simp, Nat.zero_le _, h0⟩, ?_⟩
  rintro i m H ⟨rfl, hi, p⟩
  have q := hG i H hi p
  by_cases hlt : i < n
  · refine .inr ⟨w.goes i H hlt q, Pv (i + 1), fun H' p' => ⟨n - (i + 1), by omega, rfl, hlt, p'⟩, fun x H' y => hs i x H H' hlt p (w.yields i H x H' hlt q y)⟩
  · have e : i = n := by omega
    subst e
    exact .inl ⟨w.stops H q, hd H p⟩
section
variable {P : Program} {w : World} {K : PySem.W.Frag} {mg : Str → Option Value} {base : Heap} {c : Cs}
def maF (n d : Addr) : List (Str × V) := [("numbers", .ref n), ("places", .ref d)]
def MarksAt (c : Cs) (H : Hp) (m : Addr) (k : Kd) (t : List Int) : Prop := ∃ dx n d, H m = some (.ins c.ma dx (maF n d)) ∧ LAt H n (nums k t) ∧ H d = some (.dK (plc k t (t.length + 1)))
theorem MarksAt.mono {H H' : Hp} {m : Addr} {k : Kd} {t : List Int} (s : Same H H') (h : MarksAt c H m k t) : MarksAt c H' m k t := by
  obtain ⟨dx, n, d, h1, h2, h3⟩ := h
  exact ⟨dx, n, d, s _ _ h1, h2.mono s, s _ _ h3⟩
/- Marks.__init__: 0 self, 1 text, 2 kind, 3 char, 4 place, 5 number -/
theorem sc_Marks_init : FnScope ["self", "text", "kind", "char", "place", "number"] ["self", "text", "kind"] (defScope s_Marks_init) := ⟨rfl, rfl, rfl, by decide +kernel, rfl, by decide +kernel, by decide +kernel⟩
theorem bi_Marks_init : BindsB "__init__" "Marks.__init__" s_Marks_init ["self", "text", "kind"] := fun _ _ _ _ _ _ us hl => match us, hl with | [_, _, _], _ => rfl
def spMarksInit (c : Cs) : Sp := fun vs H Q _ => ∃ (m dx x : Addr) (t : List Int) (k : Kd), vs = [.ref m, .ref x, .str k.s] ∧ H m = some (.ins c.ma dx []) ∧ TextAt c (Msk H [m]) x t ∧ t.length ≤ 100000 ∧
  ∀ H' n d, (∀ b o, H b = some o → b ≠ m → H' b = some o) → H' m = some (.ins c.ma dx (maF n d)) → LAt (Fr H H') n (nums k t) → Fr H H' d = some (.dK (plc k t (t.length + 1))) → Q .non H'
theorem ok_Marks_init (T : Txt K mg c) (G_wide : GF P w K mg base 1 "wide" ["char", "kind"] spWide) : KF P w K mg base 2 "Marks" c.ma ["self", "text", "kind"] (spMarksInit c) := by
  refine T.d_Marks_init.kf sc_Marks_init bi_Marks_init (fun vs H Q E h => ?_) (fun f cdv A outer s H vs Q E hr h => ?_)
  · obtain ⟨m, dx, x, t, k, rfl, _⟩ := h
    rfl
  · obtain ⟨m, dx, x, t, k, rfl, hm, ⟨tx, l, v, hx, hl⟩, ht, q⟩ := h
    refine ⟨_, (pss_cons (ps_fld (pv 0) (pe_lst (pa_cons pe_int pa_nil)) rfl)
      (pss_cons (ps_for PassesOwn.never rfl (pi_listN K (pe_fld (pv 1) rfl)) (pg_name (i := 3) sc_Marks_init.nd rfl (Or.inl rfl))
      (pss_one (ps_expr (pe_bm PySem.F.plainAttrs_list PySem.F.slot_list_append PySem.F.type_list_append mt_append (pe_fld (pv 0) rfl) (pa_cons (pe_op op_add (pe_ix ix_list (pe_fld (pv 0) rfl) (pe_un un_neg pe_int) (fun _ _ => rfl)) (pe_gf G_wide hr (pa_cons (pv 3) (pa_cons (pv 2) pa_nil)))) pa_nil)))))
      (pss_one (ps_fld (pv 0) (pe_dc (own := [("place", 4), ("number", 5)]) (g := gTup K 2 (gCons (gName 4) (gCons (gName 5) gNil))) rfl sc_Marks_init.nd (pi_enum (by rfl) T.z_enumerate (pa_cons (pe_fld (pv 0) rfl) pa_nil)) (blkOk_by (own := [("place", 4), ("number", 5)]) (N := ["self", "text", "kind", "char", "place", "number"]) (sc := defScope s_Marks_init) (by decide +kernel)) (fun _ _ _ _ _ => (pg_tupN K rfl (pgs_cons (pg_name (i := 4) sc_Marks_init.nd rfl (by first | exact Or.inl rfl | exact Or.inr rfl)) (pgs_cons (pg_name (i := 5) sc_Marks_init.nd rfl (by first | exact Or.inl rfl | exact Or.inr rfl)) pgs_nil)))) (fun _ _ _ _ _ => pts_nil) (fun _ _ _ _ _ => (pv 5)) (fun _ _ _ _ _ => (pv 4))) rfl)))), ?_⟩
    refine ⟨lk 1 (by decide), fun n hn => ?_⟩
    have s1 : Same H (upd H n (.lst [.int 0])) := same_upd hn
    have hm1 := s1 _ _ hm
    refine ⟨_, rfl, m, c.ma, dx, [], rfl, hm1, T.cl_ma, T.n_ma_numbers, by show 0 < 1000; decide, ?_⟩
    have nmn : m ≠ n := ne_of_none hm hn
    have nHn : H n = none := hn
    -- all but the numbers stand
    have sB : Same (Msk H [m]) (Msk (upd (upd H n (.lst [.int 0])) m (.ins c.ma dx [("numbers", .ref n)])) [n]) := fun b o e => by
      have nb : b ≠ m := fun z => by rw [z, msk_in (by simp)] at e; cases e
      have e1 : H b = some o := msk_same _ _ e
      rw [msk_at (by simpa using ne_of_none e1 hn), upd_ne nb]
      exact s1 _ _ e1
    have hx1 := fun H2 (s2 : Same (Msk (upd (upd H n (.lst [.int 0])) m (.ins c.ma dx [("numbers", .ref n)])) [n]) H2) => s2 _ _ (sB _ _ hx)
    have hl1 := fun H2 (s2 : Same (Msk (upd (upd H n (.lst [.int 0])) m (.ins c.ma dx [("numbers", .ref n)])) [n]) H2) => s2 _ _ (sB _ _ hl)
    have hmm : (Msk (upd (upd H n (.lst [.int 0])) m (.ins c.ma dx [("numbers", .ref n)])) [n]) m = some (.ins c.ma dx [("numbers", .ref n)]) := by
      rw [msk_at (by simpa using nmn)]
      exact upd_same
    have hnn0 : (Msk (upd (upd H n (.lst [.int 0])) m (.ins c.ma dx [("numbers", .ref n)])) [n]) n = none := msk_in (by simp)
    have hn0 : (upd (upd H n (.lst [.int 0])) m (.ins c.ma dx [("numbers", .ref n)])) n = some (.lst (((List.range 1).map fun i => (numAt (wd k) t i : Int)).map V.int)) := by
      rw [upd_ne nmn.symm, upd_same]
      rfl
    have sM : Same (Msk (upd (upd H n (.lst [.int 0])) m (.ins c.ma dx [("numbers", .ref n)])) [n]) (upd (upd H n (.lst [.int 0])) m (.ins c.ma dx [("numbers", .ref n)])) := msk_same
    have hold : ∀ b o, H b = some o → b ≠ m → (Msk (upd (upd H n (.lst [.int 0])) m (.ins c.ma dx [("numbers", .ref n)])) [n]) b = some o := fun b o e nb => sB _ _ (by rw [msk_at (by simpa using nb)]; exact e)
    show tSeq _ _ _ _ (upd (upd H n (.lst [.int 0])) m (.ins c.ma dx [("numbers", .ref n)]))
    generalize Msk (upd (upd H n (.lst [.int 0])) m (.ins c.ma dx [("numbers", .ref n)])) [n] = HB at *
    generalize upd (upd H n (.lst [.int 0])) m (.ins c.ma dx [("numbers", .ref n)]) = H1 at *
    refine ⟨_, rfl, x, c.tx, tx, _, .ref l, rfl, hx1 _ sM, T.cl_tx, T.n_tx_own_chars, rfl, l, rfl, ⟨_, SqL.of (hl1 _ sM)⟩, for_list (K := K) (a := l) (xs := t.map V.int) (fun i σ H2 => ∃ v3, σ = [some (.ref m), some (.ref x), some (.str k.s), v3, none, none] ∧ Same HB H2 ∧ H2 n = some (.lst (((List.range (i + 1)).map fun i => (numAt (wd k) t i : Int)).map V.int))) ⟨none, rfl, sM, hn0⟩ ?_ ?_ ?_⟩
    · rintro i σ H2 - ⟨v3, rfl, s2, _⟩
      exact SqL.of (hl1 _ s2)
    · rintro i y σ H2 hy ⟨v3, rfl, s2, hn2⟩
      obtain ⟨z, hz, rfl⟩ := map_at_int hy
      have hi := (List.getElem?_eq_some_iff.mp hz).1
      refine ⟨_, rfl, m, c.ma, dx, _, .ref n, rfl, s2 _ _ hmm, T.cl_ma, T.n_ma_numbers, rfl, .inl ⟨rfl, _, SqL.of hn2⟩, ?_⟩
      refine ⟨_, rfl, m, c.ma, dx, _, .ref n, rfl, s2 _ _ hmm, T.cl_ma, T.n_ma_numbers, rfl, _, rfl, n, _, -1, .int (numAt (wd k) t i), rfl, rfl, SqL.of hn2, atI_neg1 ?_, ?_⟩
      · simp
      refine ⟨_, rfl, _, rfl, z, k, rfl, _, _, rfl, rfl, n, _, _, rfl, rfl, hn2, szlt _ (by simp; omega), _, rfl, same_mut s2 hnn0, ?_⟩
      have e : (numAt (wd k) t (i + 1) : Int) = (numAt (wd k) t i : Int) + (wd k z : Int) := by
        rw [numAt_succ hi, List.getD_eq_getElem?_getD, hz]
        rfl
      rw [upd_same, List.range_succ (n := i + 1), List.map_append, List.map_append]
      show _ = some (HO.lst (_ ++ [V.int (numAt (wd k) t (i + 1) : Int)]))
      rw [e]
    · rintro σ H2 ⟨v3, rfl, s2, hn2⟩
      rw [List.length_map] at hn2
      have hn3 : LAt H2 n (nums k t) := hn2
      refine ⟨_, rfl, m, c.ma, dx, _, .ref n, rfl, s2 _ _ hmm, T.cl_ma, T.n_ma_numbers, rfl, n, _, rfl, SqL.of hn3, fun D hD => ?_⟩
      have nDn : n ≠ D := ne_of_none hn3 hD
      refine dc_it (walk_enum (K := K) (a := n) (xs := (nums k t).map V.int)) (fun i H3 => Same H2 H3 ∧ H3 D = some (.dK (plc k t i))) ⟨same_upd hD, upd_same⟩ (fun i H3 _ z => SqL.of (z.1 _ _ hn3)) ?_ ?_
      · rintro i y H3 H4 hi ⟨s3, hD3⟩ ⟨T0, y1, y2, rfl, hT, rfl, e1, e2⟩
        cases e1
        rw [List.length_map, nums_len] at hi
        have e3 : y2 = .int (numAt (wd k) t i) := by
          have e2 : ((nums k t).map V.int)[i]? = some y2 := e2
          rw [List.getElem?_map, nums_at (by omega)] at e2
          exact (Option.some.inj e2).symm
        subst e3
        refine ⟨T0, _, rfl, SqT.of upd_same, rfl, _, _, rfl, _, _, rfl, rfl, rfl, ?_⟩
        refine yesT ⟨_, rfl, _, rfl, plc k t i, .inl (numAt (wd k) t i : Int), rfl, (same_upd hT) _ _ hD3, szlt _ (by simp [plc]; omega), ?_, ?_⟩
        · exact same_mut (s3.trans (same_upd hT)) hD
        · rw [upd_same, plc_put (by omega)]
      · rintro H3 ⟨s3, hD3⟩
        rw [List.length_map, nums_len] at hD3
        refine ⟨_, rfl, m, c.ma, dx, _, rfl, s3 _ _ (s2 _ _ hmm), T.cl_ma, T.n_ma_places, by show 1 < 1000; decide, ?_⟩
        have nnm : n ≠ m := nmn.symm
        have nDm : D ≠ m := fun z => by rw [z, s2 _ _ hmm] at hD; cases hD
        have hnD : H D = none := by
          cases e : H D with
          | none => rfl
          | some o => rw [s2 _ _ (hold D o e nDm)] at hD; cases hD
        refine q _ n D (fun b o e nb => ?_) upd_same ?_ ?_
        · rw [upd_ne nb]
          exact s3 _ _ (s2 _ _ (hold b o e nb))
        · show Fr H _ n = _
          unfold Fr
          rw [if_pos nHn, upd_ne nnm]
          exact s3 _ _ hn3
        · unfold Fr
          rw [if_pos hnD, upd_ne nDm]
          exact hD3
/-- Marks(text, kind) -/
theorem mk_marks {H : Hp} {x : Addr} {t : List Int} {k : Kd} {R : Addr → VK} (hx : TextAt c H x t) (ht : t.length ≤ 100000) (q : ∀ m H', Same H H' → MarksAt c (Fr H H') m k t → R m .non H') :
    ∀ m dx, H m = none → H dx = none → dx ≠ m → spMarksInit c [.ref m, .ref x, .str k.s] (upd (upd H dx (.own m)) m (.ins c.ma dx [])) (R m) E0 := fun m dx nx nd ne => by
  have s1 : Same H (upd (upd H dx (.own m)) m (.ins c.ma dx [])) := fun b o e => by
    rw [upd_ne (ne_of_none e nx), upd_ne (ne_of_none e nd)]
    exact e
  refine ⟨m, dx, x, t, k, rfl, upd_same, hx.mono (same_of_msk (by simpa using nx) s1), ht, fun H' n d kk hm hn hd => ?_⟩
  have s2 : Same H H' := fun b o e => kk b o (s1 _ _ e) (ne_of_none e nx)
  refine q m H' s2 ⟨dx, n, d, ?_, hn.mono (fr_wide (dom_same s1)), fr_wide (dom_same s1) _ _ hd⟩
  unfold Fr
  rw [if_pos nx]
  exact hm
/- Marks.place: 0 self, 1 number (cell), 2 start, 3 other -/
theorem sc_Marks_place : FnScope ["self", "number", "start", "other"] ["self", "number"] (defScope s_Marks_place) := ⟨rfl, rfl, rfl, by decide +kernel, rfl, by decide +kernel, by decide +kernel⟩
theorem bi_Marks_place : BindsB "place" "Marks.place" s_Marks_place ["self", "number"] := fun _ _ _ _ _ _ us hl => match us, hl with | [_, _], _ => rfl
def spPlace (c : Cs) : Sp := fun vs H Q _ => ∃ (m : Addr) (k : Kd) (t : List Int) (i : Nat), vs = [.ref m, .int (numAt (wd k) t i)] ∧ MarksAt c H m k t ∧ i ≤ t.length ∧ Q (.int (i : Nat)) H
theorem ok_Marks_place (T : Txt K mg c) : MF P w K mg base 1 c.ma "place" ["self", "number"] [] (spPlace c) := by
  refine T.d_Marks_place.mf sc_Marks_place bi_Marks_place (fun vs H Q E h => ?_) (fun f cdv A outer s H vs Q E hr h => ?_)
  · obtain ⟨m, k, t, i, rfl, _⟩ := h
    rfl
  · obtain ⟨m, k, t, i, rfl, ⟨dx, n, d, hm, hn, hd⟩, hi, q⟩ := h
    refine ⟨_, (pss_cons (ps_if (pt_cmpR op_gt (pv 1) (pe_ix ix_list (pe_fld (pv 0) rfl) (pe_un un_neg pe_int) (fun _ _ => rfl)) (nomark _)) (pss_one ps_never) pss_nil)
      (pss_cons (ps_if (pt_cmp (pc_dnotin (hu1 hr) (pv 1) (pe_fld (pv 0) rfl))) (pss_cons ps_never
      (pss_one ps_never)) pss_nil)
      (pss_one (ps_ret (pe_dget (hu1 hr) (pe_fld (pv 0) rfl) (pv 1) (fun _ _ => rfl)))))), ?_⟩
    refine ⟨_, rfl, _, rfl, m, c.ma, dx, _, .ref n, rfl, hm, T.cl_ma, T.n_ma_numbers, rfl, _, rfl, n, _, -1, .int (numAt (wd k) t t.length), rfl, rfl, SqL.of hn, atI_neg1 ?_, _, _, rfl, rfl, _, rfl, ?_⟩
    · rw [List.length_map, nums_len, List.getElem?_map, show t.length + 1 - 1 = t.length from rfl, nums_at (Nat.le_refl _)]
      rfl
    have hle := numAt_le (f := wd k) (t := t) (wd1 k) hi (Nat.le_refl _)
    rw [decide_eq_false (show ¬ ((numAt (wd k) t t.length : Nat) : Int) < ((numAt (wd k) t i : Nat) : Int) by omega)]
    have hg : DGet H d (.int (numAt (wd k) t i)) (some (.int (i : Nat))) := by
      have := DGet.k (k := .inl (numAt (wd k) t i : Int)) hd
      rw [valV_map (Nat.le_refl _) (by omega)] at this
      exact this
    refine iteF ⟨_, rfl, _, rfl, m, c.ma, dx, _, .ref d, rfl, hm, T.cl_ma, T.n_ma_places, rfl, d, _, rfl, hg, false, rfl, iteF ?_⟩
    exact ⟨_, rfl, m, c.ma, dx, _, .ref d, rfl, hm, T.cl_ma, T.n_ma_places, rfl, _, rfl, d, _, rfl, hg, q⟩
/-! ### counted -/
theorem FI.rebase {H Hb H2 : Hp} {fa : Addr} {rows : List Row} (g : FI H Hb fa H2 rows) : FI H (Msk H2 [fa]) fa H2 rows := ⟨g.hb.trans g.same', msk_same, msk_in (by simp), g.r⟩
theorem two_rows {H : Hp} {a : Addr} {row : Row} (h : RowAt H a row) : (∃ (b : Bool) (n : Nat), row = rowOf b n ∧ H a = some (.tup [.str (kdw b), .int n])) ∨ ∃ cs l, row = .put cs ∧ H a = some (.tup [.str "put", .ref l]) ∧ LAt H l cs := by
  cases row with
  | keep n => exact .inl ⟨false, n, rfl, h⟩
  | drop n => exact .inl ⟨true, n, rfl, h⟩
  | put cs =>
    obtain ⟨l, h1, h2⟩ := h
    exact .inr ⟨cs, l, rfl, h1, h2⟩
theorem crow_rowOf (f : Int → Nat) (t : List Int) (p : Nat) (b : Bool) (n : Nat) : crow f t p (rowOf b n) = rowOf b (numAt f t (p + n) - numAt f t p) := by cases b <;> rfl
theorem rowOf_ln (b : Bool) (n : Nat) : (rowOf b n).ln = n := by cases b <;> rfl
/- counted: 0 delta, 1 text, 2 kind, 3 found, 4 at, 5 numbers, 6 word, 7 more -/
theorem sc_counted : FnScope ["delta", "text", "kind", "found", "at", "numbers", "word", "more"] ["delta", "text", "kind"] (defScope s_counted) := ⟨rfl, rfl, rfl, by decide +kernel, rfl, by decide +kernel, by decide +kernel⟩
theorem bi_counted : BindsB "counted" "counted" s_counted ["delta", "text", "kind"] := fun _ _ _ _ _ _ us hl => match us, hl with | [_, _, _], _ => rfl
def spCounted (c : Cs) : Sp := fun vs H Q _ => ∃ (p x : Addr) (D : Dl) (t : List Int) (k : Kd), vs = [.ref p, .ref x, .str k.s] ∧ DelAt c H p D ∧ TextAt c H x t ∧ t.length = D.ds.length ∧ t.length ≤ 1000 ∧
  ∀ H' a rs, Same H H' → RowsAt (Fr H H') a (crows (wd k) t 0 rs) → gaps rs = D → rs.length ≤ 2 * D.ds.length + 1 → Q (.ref a) H'
theorem ok_counted (T : Txt K mg c) (G_need_delta : GF P w K mg base 1 "need_delta" ["value"] (spNeedDelta c)) (G_need_text : GF P w K mg base 1 "need_text" ["value"] (spNeedText c)) (G_Text_len : MF P w K mg base 1 c.tx "__len__" ["self"] [] (spTextLen c)) (G_Delta_length_before : PF P w K mg base 1 c.de "length_before" (spDelBefore c)) (G_need_kind : GF P w K mg base 2 "need_kind" ["value"] spNeedKind)
    (G_Marks_init : KF P w K mg base 2 "Marks" c.ma ["self", "text", "kind"] (spMarksInit c)) (G_Delta_rows : MF P w K mg base 1 c.de "rows" ["self"] [] (spDelRows c)) : GF P w K mg base 4 "counted" ["delta", "text", "kind"] (spCounted c) := by
  refine T.d_counted.gf sc_counted bi_counted (fun vs H Q E h => ?_) (fun f cdv A outer s H vs Q E hr h => ?_)
  · obtain ⟨p, x, D, t, k, rfl, _⟩ := h
    rfl
  · obtain ⟨p, x, D, t, k, rfl, hD, hx, hl, hs, q⟩ := h
    refine ⟨_, (pss_cons (ps_expr (pe_gf G_need_delta hr (pa_cons (pv 0) pa_nil)))
      (pss_cons (ps_expr (pe_gf G_need_text hr (pa_cons (pv 1) pa_nil)))
      (pss_cons (ps_if (pt_cmpR op_ne (pe_callB (call_lenOwn G_Text_len hr) (by rfl) T.z_len (by decide +kernel) (pa_cons (pv 1) pa_nil)) (pe_pf G_Delta_length_before T.cl_de hr (pv 0)) (nomark _)) (pss_one ps_never) pss_nil)
      (pss_cons (ps_expr (pe_gf G_need_kind hr (pa_cons (pv 2) pa_nil)))
      (pss_cons (ps_par3 (i := 3) (j := 4) (l := 5) (by rfl) sc_counted.nd rfl rfl rfl (by decide) (by decide) (by decide) rfl rfl rfl (pa_cons (pe_lst pa_nil) (pa_cons pe_int (pa_cons (pe_fld (pe_kf G_Marks_init hr (pa_cons (pv 1) (pa_cons (pv 2) pa_nil))) rfl) pa_nil))) (by rfl))
      (pss_cons (ps_for PassesOwn.never rfl (pi_listN K (pe_mf0 G_Delta_rows T.cl_de hr (pv 0))) (pg_tup rfl (pgs_cons (pg_name (i := 6) sc_counted.nd rfl (Or.inl rfl)) (pgs_cons (pg_name (i := 7) sc_counted.nd rfl (Or.inl rfl)) pgs_nil)))
      (pss_one (ps_if (pt_cmpR op_eq (pv 6) (pe_globE T.s_PUT) (nomark _)) (pss_one (ps_expr (pe_bm PySem.F.plainAttrs_list PySem.F.slot_list_append PySem.F.type_list_append mt_append (pv 3) (pa_cons (pe_tup (pa_cons (pv 6) (pa_cons (pv 7) pa_nil))) pa_nil)))) (pss_cons (ps_expr (pe_bm PySem.F.plainAttrs_list PySem.F.slot_list_append PySem.F.type_list_append mt_append (pv 3) (pa_cons (pe_tup (pa_cons (pv 6) (pa_cons (pe_op op_sub (pe_ix ix_list (pv 5) (pe_op op_add (pv 4) (pv 7)) (fun _ _ => rfl)) (pe_ix ix_list (pv 5) (pv 4) (fun _ _ => rfl))) pa_nil))) pa_nil)))
      (pss_one (ps_aug (i := 4) sc_counted.nd rfl (Or.inl rfl) (pv 7) ip_add))))))
      (pss_one (ps_ret (pv 3))))))))), ?_⟩
    refine ⟨_, rfl, p, D, rfl, hD, ?_⟩
    refine ⟨_, rfl, x, t, rfl, hx, ?_⟩
    obtain ⟨tx, tl, tv, hxx, hxl⟩ := id hx
    obtain ⟨dx, r, pa, d, rs0, hp, hrest⟩ := id hD
    refine ⟨_, rfl, x, tx, _, rfl, hxx, x, t, rfl, hx, t.length, rfl, ⟨by omega, by omega⟩, ?_⟩
    refine ⟨_, rfl, p, dx, _, rfl, hp, p, D, rfl, hD, rfl, _, rfl, ?_⟩
    rw [hl, decide_eq_true rfl]
    refine iteF ⟨_, rfl, k, rfl, ?_⟩
    refine ⟨lk 0 (by decide), fun fa hfa => ?_⟩
    have s0 : Same H (upd H fa (.lst [])) := same_upd hfa
    refine ⟨_, rfl, _, rfl, mk_marks (k := k) (hx.mono s0) (by omega) fun m H1 s1 hm => ⟨rfl, ?_⟩⟩
    obtain ⟨mx, n, md, hmm, hmn, hmd⟩ := hm
    have hfa1 : H1 fa = some (.lst []) := s1 _ _ upd_same
    refine ⟨m, c.ma, mx, _, .ref n, rfl, fr_same _ _ hmm, T.cl_ma, T.n_ma_numbers, rfl, _, _, _, rfl, ?_⟩
    have s01 := s0.trans s1
    refine ⟨_, rfl, p, dx, _, rfl, s01 _ _ hp, rfl, p, D, rfl, hD.mono s01, by omega, fun H2 ra rs s2 hra hg hrl => ?_⟩
    have hfa2 : H2 fa = some (.lst []) := s2 _ _ hfa1
    have nf1 : ∀ b ∈ [fa], H1 b ≠ none := by
      intro b hb
      rw [List.mem_singleton.mp hb, hfa1]
      intro z; cases z
    have nf0 : ∀ b ∈ [fa], (upd H fa (.lst [])) b ≠ none := by
      intro b hb
      rw [List.mem_singleton.mp hb, upd_same]
      intro z; cases z
    have sr : Same (Fr H1 H2) (Msk H2 [fa]) := fr_msk nf1
    have sr2 : Same (Fr H1 H2) (Fr H (Msk H2 [fa])) := fr_of (fun b u e => s01.free (fr_new e)) sr
    have sn : Same (Fr (upd H fa (.lst [])) H1) (Msk H2 [fa]) := fun b u e => fr_msk nf0 b u (fr_next s2 b u e)
    have g0 : FI H (Msk H2 [fa]) fa H2 [] := ⟨same_of_msk (by simpa using hfa) (s01.trans s2), msk_same, msk_in (by simp), [], hfa2, .nil⟩
    obtain ⟨as, hra1, hras⟩ := hra
    have hN : (Msk H2 [fa]) n = some (.lst ((nums k t).map V.int)) := sn _ _ hmn
    have hra2 := sr _ _ hra1
    have htl : before rs = t.length := by rw [hl, ← hg, ds_gaps]
    refine ⟨ra, rfl, ⟨_, SqL.of (msk_same _ _ hra2)⟩, for_list (K := K) (a := ra) (xs := as.map V.ref) (fun i σ H3 => ∃ v6 v7, σ = [some (.ref p), some (.ref x), some (.str k.s), some (.ref fa), some (.int (before (rs.take i) : Nat)), some (.ref n), v6, v7] ∧ FI H (Msk H2 [fa]) fa H3 ((crows (wd k) t 0 rs).take i)) ⟨none, none, rfl, g0⟩ ?_ ?_ ?_⟩
    · rintro i σ H3 - ⟨v6, v7, rfl, g⟩
      exact SqL.of (g.s _ _ hra2)
    · rintro i y σ H3 hy ⟨v6, v7, rfl, g⟩
      obtain ⟨a, ha, rfl⟩ := lmap_at hy
      obtain ⟨row, hri, hrow⟩ := pr_at2 hras ha
      have hi := (List.getElem?_eq_some_iff.mp hri).1
      have hcr := crows_at (f := wd k) (t := t) rs 0 i hri
      rw [Nat.zero_add] at hcr
      rw [take_snoc hcr, before_take hri]
      obtain ⟨xs, hxs, hxl2⟩ := g.lst
      rw [List.length_take, crows_len] at hxl2
      have hbt := before_le rs (i + 1)
      rw [before_take hri] at hbt
      generalize before (rs.take i) = B at *
      generalize (crows (wd k) t 0 rs).take i = R at *
      rcases two_rows hrow with ⟨b, m2, rfl, e1⟩ | ⟨cs, l, rfl, e1, hl1⟩
      · rw [crow_rowOf, rowOf_ln]
        rw [rowOf_ln] at hbt
        refine ⟨a, _, rfl, SqT.of (g.s _ _ (sr _ _ e1)), rfl, _, _, rfl, _, _, rfl, rfl, ?_⟩
        refine ⟨_, rfl, rfl, _, rfl, ?_⟩
        rw [kdw_put]
        refine iteF ⟨_, rfl, .inl ⟨rfl, _, SqL.of hxs⟩, _, rfl, _, rfl, _, rfl, _, rfl, _, _, rfl, rfl, n, _, ((B + m2 : Nat) : Int), .int (numAt (wd k) t (B + m2)), rfl, rfl, SqL.of (g.s _ _ hN), atI_of (by rw [List.getElem?_map, nums_at (by omega)]; rfl), ?_⟩
        refine ⟨_, rfl, _, rfl, n, _, (B : Int), .int (numAt (wd k) t B), rfl, rfl, SqL.of (g.s _ _ hN), atI_of (by rw [List.getElem?_map, nums_at (by omega)]; rfl), _, _, rfl, rfl, lk 2 (by decide), fun t1 ht1 => ⟨fa, xs, _, rfl, rfl, (same_upd ht1) _ _ hxs, szlt _ (by omega), ?_⟩⟩
        refine ⟨_, rfl, _, rfl, _, _, rfl, rfl, _, _, rfl, ?_⟩
        have hle := numAt_le (f := wd k) (t := t) (wd1 k) (show B ≤ B + m2 by omega) (by omega)
        have ev : ((numAt (wd k) t (B + m2) : Nat) : Int) - ((numAt (wd k) t B : Nat) : Int) = ((numAt (wd k) t (B + m2) - numAt (wd k) t B : Nat) : Int) := by omega
        show FI _ _ _ (upd (upd H3 t1 (.tup [.str (kdw b), .int (((numAt (wd k) t (B + m2) : Nat) : Int) - ((numAt (wd k) t B : Nat) : Int))])) fa (.lst (xs ++ [.ref t1]))) _
        rw [ev]
        exact (g.same (same_upd ht1)).push ((same_upd ht1) _ _ hxs) (g.num ht1 b _)
      · refine ⟨a, _, rfl, SqT.of (g.s _ _ (sr _ _ e1)), rfl, _, _, rfl, _, _, rfl, rfl, ?_⟩
        refine ⟨_, rfl, rfl, _, rfl, ?_⟩
        rw [decide_eq_true (show V.str "put" = V.str "put" from rfl)]
        refine iteT ⟨_, rfl, .inl ⟨rfl, _, SqL.of hxs⟩, _, rfl, _, rfl, lk 2 (by decide), fun t1 ht1 => ⟨fa, xs, _, rfl, rfl, (same_upd ht1) _ _ hxs, szlt _ (by omega), _, _, rfl, ?_⟩⟩
        exact (g.same (same_upd ht1)).push ((same_upd ht1) _ _ hxs) (g.putr ht1 (LAt.mono (fr_next g.same') (LAt.mono sr2 hl1)))
    · rintro σ H3 ⟨v6, v7, rfl, g⟩
      rw [List.length_map, pr_len hras] at g
      rw [List.take_of_length_le (by rw [crows_len]; exact Nat.le_refl _)] at g
      exact ⟨_, rfl, q _ fa rs (g.hb.trans g.s) g.done hg hrl⟩
end
end Tc
/-! # The walks: rows that count, edits -/
namespace Tc
open PySem PySem.Spec PyProof.Rows L2
theorem inV_kdw (b : Bool) : inV (.str (kdw b)) [.str "keep", .str "drop"] = true := by cases b <;> decide +kernel
theorem all_true (n : Nat) : (List.replicate n true).all id = true := by
  rw [List.all_eq_true]
  intro x hx
  rw [(List.mem_replicate.mp hx).2]
  rfl
section
variable {P : Program} {w : World} {K : PySem.W.Frag} {mg : Str → Option Value} {base : Heap} {c : Cs}
/-- a row that counts, within its bounds -/
def CrOk : Row → Prop
  | .keep n => n ≤ 2400
  | .drop n => n ≤ 2400
  | .put cs => cs.length ≤ 600 ∧ ∀ y ∈ cs, ChOk y
theorem rowOf_ok {b : Bool} {n : Nat} : CrOk (rowOf b n) ↔ n ≤ 2400 := by cases b <;> exact Iff.rfl
/- is_counted_row: 0 value, 1 word, 2 more, 3 char -/
theorem sc_is_counted_row : FnScope ["value", "word", "more", "char"] ["value"] (defScope s_is_counted_row) := ⟨rfl, rfl, rfl, by decide +kernel, rfl, by decide +kernel, by decide +kernel⟩
theorem bi_is_counted_row : BindsB "is_counted_row" "is_counted_row" s_is_counted_row ["value"] := fun _ _ _ _ _ _ us hl => match us, hl with | [_], _ => rfl
def spCrow : Sp := fun vs H Q _ => ∃ (a : Addr) (r : Row), vs = [.ref a] ∧ RowAt H a r ∧ CrOk r ∧ ∀ H', Same H H' → Q (.bl true) H'
theorem ok_is_counted_row (T : Txt K mg c) (G_is_list : GF P w K mg base 1 "is_list" ["value"] spIsList) (G_is_char : GF P w K mg base 2 "is_char" ["value"] spIsChar) (G_is_integer : GF P w K mg base 1 "is_integer" ["value", "low", "high"] spIsInteger) : GF P w K mg base 3 "is_counted_row" ["value"] spCrow := by
  refine T.d_is_counted_row.gf sc_is_counted_row bi_is_counted_row (fun vs H Q E h => ?_) (fun f cdv A outer s H vs Q E hr h => ?_)
  · obtain ⟨a, r, rfl, _⟩ := h
    rfl
  · obtain ⟨a, r, rfl, ha, hok, q⟩ := h
    refine ⟨_, (pss_cons (ps_if (PW.pt (pw_or (pt_not (pt_val (pe_callB call_isi (by rfl) T.z_isinstance (by decide +kernel) (pa_cons (pv 0) (pa_cons (pe_bltn (by rfl) T.z_tuple (by decide +kernel) (show RelV (.ty "tuple") _ from rfl)) pa_nil))))) (pw_or (pt_cmpR op_ne (pe_callB call_len_seq (by rfl) T.z_len (by decide +kernel) (pa_cons (pv 0) pa_nil)) pe_int (nomark _)) (pw_or1 (pt_not (pt_val (pe_callB call_isi (by rfl) T.z_isinstance (by decide +kernel) (pa_cons (pe_ix ix_tup (pv 0) pe_int (fun _ _ => rfl)) (pa_cons (pe_bltn (by rfl) T.z_str (by decide +kernel) (show RelV (.ty "str") _ from rfl)) pa_nil))))))))) (pss_one (ps_ret pe_bl)) pss_nil)
      (pss_cons (ps_asg (pv 0) (pg_tup rfl (pgs_cons (pg_name (i := 1) sc_is_counted_row.nd rfl (Or.inl rfl)) (pgs_cons (pg_name (i := 2) sc_is_counted_row.nd rfl (Or.inl rfl)) pgs_nil))))
      (pss_cons (ps_if (pt_cmpR op_eq (pv 1) (pe_globE T.s_PUT) (nomark _)) (pss_one (ps_ret (pe_and (pe_gf G_is_list hr (pa_cons (pv 2) pa_nil)) (pe_and (pe_cmpR op_le (pe_callB call_len_seq (by rfl) T.z_len (by decide +kernel) (pa_cons (pv 2) pa_nil)) (pe_globE T.i_MOST) (nomark _)) (pe_one (pe_callB (cr_allN K) (by rfl) T.z_all (by decide +kernel) (pa_cons (pe_lc (own := [("char", 3)]) (g := gName 3) rfl sc_is_counted_row.nd (pi_listN K (pv 2)) (blkOk_by (own := [("char", 3)]) (N := ["value", "word", "more", "char"]) (sc := defScope s_is_counted_row) (by decide +kernel)) (fun _ _ _ _ _ => pg_name (i := 3) sc_is_counted_row.nd rfl (by first | exact Or.inl rfl | exact Or.inr rfl)) (fun _ _ _ _ _ => pts_nil) (fun _ _ _ _ _ => (pe_gf G_is_char hr (pa_cons (pv 3) pa_nil)))) pa_nil))))))) pss_nil)
      (pss_one (ps_ret (pe_and (pe_cmpR op_in_seq (pv 1) (pe_tup (pa_cons (pe_globE T.s_KEEP) (pa_cons (pe_globE T.s_DROP) pa_nil))) (by rfl)) (pe_one (pe_gf G_is_integer hr (pa_cons (pv 2) (pa_cons pe_int (pa_cons (pe_globE T.i_MOST_COUNT) pa_nil))))))))))), ?_⟩
    rcases two_rows ha with ⟨b, n, rfl, e1⟩ | ⟨cs, l, rfl, e1, hl1⟩
    · refine ⟨_, rfl, _, _, _, _, true, rfl, .ty _, .base (.tup e1), kit_ty (by decide +kernel), true, rfl, iteF ?_⟩
      refine ⟨_, rfl, a, _, rfl, .inr (SqT.of e1), rfl, _, rfl, iteF ?_⟩
      refine ⟨_, rfl, a, _, 0, .str (kdw b), rfl, rfl, SqT.of e1, rfl, _, _, _, _, true, rfl, .ty _, .base (.str _), kit_ty (by decide +kernel), true, rfl, iteF ?_⟩
      refine ⟨_, rfl, a, _, rfl, SqT.of e1, rfl, _, _, rfl, _, _, rfl, rfl, ?_⟩
      refine ⟨_, rfl, rfl, _, rfl, ?_⟩
      rw [kdw_put]
      refine iteF ⟨_, rfl, lk 2 (by decide), fun tp htp => ⟨tp, _, rfl, .inr (SqT.of upd_same), rfl, rfl, _, rfl, ?_⟩⟩
      show if inV (.str (kdw b)) [.str "keep", .str "drop"] = true then _ else _
      rw [inV_kdw]
      refine iteT ⟨_, rfl, _, _, _, rfl, ?_⟩
      have h1 := rowOf_ok.mp hok
      rw [decide_eq_true (show (0 : Int) ≤ (n : Int) ∧ (n : Int) ≤ 2400 by omega)]
      exact q _ (same_upd htp)
    · refine ⟨_, rfl, _, _, _, _, true, rfl, .ty _, .base (.tup e1), kit_ty (by decide +kernel), true, rfl, iteF ?_⟩
      refine ⟨_, rfl, a, _, rfl, .inr (SqT.of e1), rfl, _, rfl, iteF ?_⟩
      refine ⟨_, rfl, a, _, 0, .str "put", rfl, rfl, SqT.of e1, rfl, _, _, _, _, true, rfl, .ty _, .base (.str _), kit_ty (by decide +kernel), true, rfl, iteF ?_⟩
      refine ⟨_, rfl, a, _, rfl, SqT.of e1, rfl, _, _, rfl, _, _, rfl, rfl, ?_⟩
      refine ⟨_, rfl, rfl, _, rfl, ?_⟩
      rw [decide_eq_true (show V.str "put" = V.str "put" from rfl)]
      refine iteT ⟨_, rfl, l, _, rfl, hl1, fun H1 s1 => ⟨true, rfl, iteT ?_⟩⟩
      have hl2 := hl1.mono s1
      refine ⟨_, rfl, l, _, rfl, .inl (SqL.of hl2), _, _, rfl, rfl, _, rfl, ?_⟩
      have h600 := hok.1
      rw [List.length_map, decide_eq_true (show ((cs.length : Nat) : Int) ≤ 600 by omega)]
      refine iteT ⟨_, rfl, l, rfl, ⟨_, SqL.of hl2⟩, fun L hL => ?_⟩
      refine lc_list (K := K) (a := l) (xs := cs.map V.int) (fun i H3 => Same H1 H3 ∧ H3 L = some (.lst ((List.replicate i true).map V.bl))) ⟨same_upd hL, upd_same⟩ (fun i H3 _ z => SqL.of (z.1 _ _ hl2)) ?_ ?_
      · rintro i y H3 hy ⟨s3, h3⟩
        obtain ⟨z, hz, rfl⟩ := map_at_int hy
        have hi := (List.getElem?_eq_some_iff.mp hz).1
        refine ⟨rfl, yesT ⟨_, rfl, z, rfl, hok.2 z (List.mem_of_getElem? hz), _, h3, szlt _ (by simp; omega), same_mut s3 hL, ?_⟩⟩
        rw [upd_same, List.replicate_succ', List.map_append]
        rfl
      · rintro H3 ⟨s3, h3⟩
        refine ⟨L, _, rfl, SqL.of h3, ?_⟩
        rw [all_true]
        exact q _ (s1.trans s3)
theorem rputs_mem {rs : List Row} {i : Nat} {cs : List Int} (h : rs[i]? = some (.put cs)) : cs.length ≤ (rputs rs).length ∧ ∀ y ∈ cs, y ∈ rputs rs := by
  have e : rputs rs = rputs (rs.take i) ++ (cs ++ rputs (rs.drop (i + 1))) := by
    have e1 : rs = rs.take i ++ (.put cs :: rs.drop (i + 1)) := by
      have hi := (List.getElem?_eq_some_iff.mp h)
      obtain ⟨hi, he⟩ := hi
      have e2 := List.getElem_cons_drop hi
      rw [he] at e2
      rw [e2, List.take_append_drop]
    conv => lhs; rw [e1, rputs_append]
    rfl
  rw [e]
  refine ⟨?_, fun y hy => List.mem_append_right _ (List.mem_append_left _ hy)⟩
  rw [List.length_append, List.length_append]
  omega
/- delta_from: 0 rows, 1 text, 2 kind, 3 item, 4 marks, 5 found, 6 number, 7 at, 8 index, 9 word, 10 more, 11 place, 12 why -/
theorem sc_delta_from : FnScope ["rows", "text", "kind", "item", "marks", "found", "number", "at", "index", "word", "more", "place", "why"] ["rows", "text", "kind"] (defScope s_delta_from) := ⟨rfl, rfl, rfl, by decide +kernel, rfl, by decide +kernel, by decide +kernel⟩
theorem bi_delta_from : BindsB "delta_from" "delta_from" s_delta_from ["rows", "text", "kind"] := fun _ _ _ _ _ _ us hl => match us, hl with | [_, _, _], _ => rfl
def spDeltaFrom (c : Cs) : Sp := fun vs H Q _ => ∃ (r x : Addr) (t : List Int) (k : Kd) (rs : List Row), vs = [.ref r, .ref x, .str k.s] ∧ RowsAt H r (crows (wd k) t 0 rs) ∧ TextAt c H x t ∧ before rs = t.length ∧ t.length ≤ 600 ∧ rs.length ≤ 1300 ∧ (rputs rs).length ≤ 600 ∧ (∀ y ∈ rputs rs, ChOk y) ∧
  ∀ H' p, Same H H' → DelAt c (Fr H H') p (gaps rs) → Q (.ref p) H'
theorem ok_delta_from (T : Txt K mg c) (G_is_list : GF P w K mg base 1 "is_list" ["value"] spIsList) (G_is_counted_row : GF P w K mg base 3 "is_counted_row" ["value"] spCrow) (G_need_text : GF P w K mg base 1 "need_text" ["value"] (spNeedText c)) (G_need_kind : GF P w K mg base 2 "need_kind" ["value"] spNeedKind)
    (G_Marks_init : KF P w K mg base 2 "Marks" c.ma ["self", "text", "kind"] (spMarksInit c)) (G_Marks_place : MF P w K mg base 1 c.ma "place" ["self", "number"] [] (spPlace c)) (G_Text_len : MF P w K mg base 1 c.tx "__len__" ["self"] [] (spTextLen c)) (G_delta_of : GF P w K mg base 5 "delta_of" ["rows"] (spDeltaOf c)) : GF P w K mg base 6 "delta_from" ["rows", "text", "kind"] (spDeltaFrom c) := by
  refine T.d_delta_from.gf sc_delta_from bi_delta_from (fun vs H Q E h => ?_) (fun f cdv A outer s H vs Q E hr h => ?_)
  · obtain ⟨r, x, t, k, rs, rfl, _⟩ := h
    rfl
  · obtain ⟨r, x, t, k, rs, rfl, hrs, hx, hbt, ht, hrl, hpl, hpc, q⟩ := h
    obtain ⟨as, hra, hras⟩ := id hrs
    obtain ⟨tx, tl, tv, hxx, hxl⟩ := id hx
    have hcl : (crows (wd k) t 0 rs).length = rs.length := crows_len _ _
    have hal := pr_len hras
    have hcok : ∀ i row, rs[i]? = some row → CrOk (crow (wd k) t (before (rs.take i)) row) := fun i row hri => by
      have hb1 := before_le rs (i + 1)
      rw [before_take hri] at hb1
      cases row with
      | put cs =>
        have := rputs_mem hri
        exact ⟨by omega, fun y hy => hpc y (this.2 y hy)⟩
      | keep n =>
        have h1 : before (rs.take i) + n ≤ before rs := hb1
        have := numAt_max (f := wd k) (t := t) (wd4 k) (before (rs.take i) + n) (by omega)
        show numAt _ _ _ - _ ≤ 2400
        omega
      | drop n =>
        have h1 : before (rs.take i) + n ≤ before rs := hb1
        have := numAt_max (f := wd k) (t := t) (wd4 k) (before (rs.take i) + n) (by omega)
        show numAt _ _ _ - _ ≤ 2400
        omega
    refine ⟨_, (pss_cons (ps_if (PW.pt (pw_or (pt_not (pt_val (pe_gf G_is_list hr (pa_cons (pv 0) pa_nil)))) (pw_or1 (pt_cmpR op_gt (pe_callB call_len_seq (by rfl) T.z_len (by decide +kernel) (pa_cons (pv 0) pa_nil)) (pe_globE T.i_MAX_ROWS_edits) (nomark _))))) (pss_one ps_never) pss_nil)
      (pss_cons (ps_for PassesOwn.never rfl (pi_listN K (pv 0)) (pg_name (i := 3) sc_delta_from.nd rfl (Or.inl rfl))
      (pss_one (ps_if (pt_not (pt_val (pe_gf G_is_counted_row hr (pa_cons (pv 3) pa_nil)))) (pss_one ps_never) pss_nil)))
      (pss_cons (ps_expr (pe_gf G_need_text hr (pa_cons (pv 1) pa_nil)))
      (pss_cons (ps_expr (pe_gf G_need_kind hr (pa_cons (pv 2) pa_nil)))
      (pss_cons (ps_asg (pe_tup (pa_cons (pe_kf G_Marks_init hr (pa_cons (pv 1) (pa_cons (pv 2) pa_nil))) (pa_cons (pe_lst pa_nil) (pa_cons pe_int (pa_cons pe_int pa_nil))))) (pg_tup rfl (pgs_cons (pg_name (i := 4) sc_delta_from.nd rfl (Or.inl rfl)) (pgs_cons (pg_name (i := 5) sc_delta_from.nd rfl (Or.inl rfl)) (pgs_cons (pg_name (i := 6) sc_delta_from.nd rfl (Or.inl rfl)) (pgs_cons (pg_name (i := 7) sc_delta_from.nd rfl (Or.inl rfl)) pgs_nil))))))
      (pss_cons (ps_for PassesOwn.never rfl (pi_enum (by rfl) T.z_enumerate (pa_cons (pv 0) pa_nil)) (pg_tup rfl (pgs_cons (pg_name (i := 8) sc_delta_from.nd rfl (Or.inl rfl)) (pgs_cons (pg_tup rfl (pgs_cons (pg_name (i := 9) sc_delta_from.nd rfl (Or.inl rfl)) (pgs_cons (pg_name (i := 10) sc_delta_from.nd rfl (Or.inl rfl)) pgs_nil))) pgs_nil)))
      (pss_cons (ps_if (pt_cmpR op_eq (pv 9) (pe_globE T.s_PUT) (nomark _)) (pss_cons (ps_expr (pe_bm PySem.F.plainAttrs_list PySem.F.slot_list_append PySem.F.type_list_append mt_append (pv 5) (pa_cons (pe_tup (pa_cons (pv 9) (pa_cons (pv 10) pa_nil))) pa_nil)))
      (pss_one ps_continue)) pss_nil)
      (pss_cons (ps_aug (i := 6) sc_delta_from.nd rfl (Or.inl rfl) (pv 10) ip_add)
      (pss_cons (ps_try_never (fun _ _ z => z) (pss_one (ps_set (i := 11) sc_delta_from.nd rfl (Or.inl rfl) (pe_mf G_Marks_place T.cl_ma hr (pv 4) (pa_cons (pv 6) pa_nil)))) pss_nil)
      (pss_cons (ps_expr (pe_bm PySem.F.plainAttrs_list PySem.F.slot_list_append PySem.F.type_list_append mt_append (pv 5) (pa_cons (pe_tup (pa_cons (pv 9) (pa_cons (pe_op op_sub (pv 11) (pv 7)) pa_nil))) pa_nil)))
      (pss_one (ps_set (i := 7) sc_delta_from.nd rfl (Or.inl rfl) (pv 11))))))))
      (pss_one (ps_ret (pe_gf G_delta_of hr (pa_cons (pe_op op_cat (pv 5) (pe_lst (pa_cons (pe_tup (pa_cons (pe_globE T.s_KEEP) (pa_cons (pe_op op_sub (pe_callB (call_lenOwn G_Text_len hr) (by rfl) T.z_len (by decide +kernel) (pa_cons (pv 1) pa_nil)) (pv 7)) pa_nil))) pa_nil))) pa_nil)))))))))), ?_⟩
    refine seq_join (fun σ H1 => σ = [some (.ref r), some (.ref x), some (.str k.s), none, none, none, none, none, none, none, none, none, none] ∧ Same H H1) (fun N hN => ?_) ?_
    · refine ⟨_, rfl, r, _, rfl, hra, fun H1 s1 => ⟨true, rfl, iteF ?_⟩⟩
      refine ⟨_, rfl, r, _, rfl, .inl (SqL.of (s1 _ _ hra)), _, _, rfl, rfl, _, rfl, ?_⟩
      rw [List.length_map, decide_eq_false (show ¬ (1300 : Int) < ((as.length : Nat) : Int) by omega)]
      exact iteF (hN _ _ ⟨rfl, s1⟩)
    rintro σ H1 ⟨rfl, s1⟩
    refine seq_join (fun σ H2 => ∃ v3, σ = [some (.ref r), some (.ref x), some (.str k.s), v3, none, none, none, none, none, none, none, none, none] ∧ Same H H2) (fun N hN => ?_) ?_
    · refine ⟨_, rfl, r, rfl, ⟨_, SqL.of (s1 _ _ hra)⟩, for_list (K := K) (a := r) (xs := as.map V.ref) (fun i σ H2 => ∃ v3, σ = [some (.ref r), some (.ref x), some (.str k.s), v3, none, none, none, none, none, none, none, none, none] ∧ Same H H2) ⟨none, rfl, s1⟩ ?_ ?_ ?_⟩
      · rintro i σ H2 - ⟨v3, rfl, s2⟩
        exact SqL.of (s2 _ _ hra)
      · rintro i y σ H2 hy ⟨v3, rfl, s2⟩
        obtain ⟨a, ha, rfl⟩ := lmap_at hy
        obtain ⟨row, hri, hrow⟩ := pr_at2 hras ha
        have hi := (List.getElem?_eq_some_iff.mp hri).1
        have hri0 : rs[i]? = some (rs[i]'(by omega)) := List.getElem?_eq_getElem (by omega)
        have e := crows_at (f := wd k) (t := t) rs 0 i hri0
        rw [hri, Nat.zero_add] at e
        obtain rfl := Option.some.inj e
        exact ⟨_, rfl, a, _, rfl, hrow.mono s2, hcok i _ hri0, fun H3 s3 => ⟨true, rfl, iteF ⟨_, rfl, s2.trans s3⟩⟩⟩
      · rintro σ H2 ⟨v3, rfl, s2⟩
        exact hN _ _ ⟨v3, rfl, s2⟩
    rintro σ H2 ⟨v3, rfl, s2⟩
    refine seq_join (fun σ H3 => σ = [some (.ref r), some (.ref x), some (.str k.s), v3, none, none, none, none, none, none, none, none, none] ∧ H3 = H2) (fun N hN => ⟨_, rfl, x, t, rfl, hx.mono s2, hN _ _ ⟨rfl, rfl⟩⟩) ?_
    rintro σ H3 ⟨rfl, rfl⟩
    refine seq_join (fun σ H4 => σ = [some (.ref r), some (.ref x), some (.str k.s), v3, none, none, none, none, none, none, none, none, none] ∧ H4 = H3) (fun N hN => ⟨_, rfl, k, rfl, hN _ _ ⟨rfl, rfl⟩⟩) ?_
    rintro σ H4 ⟨rfl, rfl⟩
    refine seq_join (fun σ H4 => ∃ m fa, σ = [some (.ref r), some (.ref x), some (.str k.s), v3, some (.ref m), some (.ref fa), some (.int 0), some (.int 0), none, none, none, none, none] ∧ FI nilH (Msk H4 [fa]) fa H4 [] ∧ Same H (Msk H4 [fa]) ∧ MarksAt c (Msk H4 [fa]) m k t) (fun N hN => ?_) ?_
    · refine ⟨_, rfl, _, rfl, mk_marks (k := k) (hx.mono s2) (by omega) fun m H3 s3 hm => ⟨rfl, ?_⟩⟩
      refine ⟨lk 0 (by decide), fun fa hfa => ⟨lk 4 (by decide), fun tp htp => ⟨tp, _, rfl, SqT.of upd_same, rfl, _, _, rfl, _, _, rfl, _, _, rfl, _, _, rfl, rfl, hN _ _ ⟨m, fa, rfl, ?_, ?_, ?_⟩⟩⟩⟩
      all_goals have s4 := (same_upd (o := .lst []) hfa).trans (same_upd (o := .tup [.ref m, .ref fa, .int 0, .int 0]) htp)
      · exact ⟨nil_same, msk_same, msk_in (by simp), [], (same_upd htp) _ _ upd_same, .nil⟩
      · exact same_of_msk (by simpa using (s2.trans s3).free hfa) ((s2.trans s3).trans s4)
      · exact (hm.mono fr_same).mono (same_of_msk (by simpa using hfa) s4)
    rintro σ H5 ⟨m, fa, rfl, g0, sH, hm⟩
    have hra5 := sH _ _ hra
    have g0' := g0
    obtain ⟨mx, mn, md, hmm, hmn, hmd⟩ := id hm
    generalize Msk H5 [fa] = HB at g0 sH hm hra5 hmm hmn hmd
    clear g0'
    refine seq_join (fun σ H6 => ∃ v3 v8 v9 v10 v11 v12, σ = [some (.ref r), some (.ref x), some (.str k.s), v3, some (.ref m), some (.ref fa), some (.int (numAt (wd k) t t.length : Nat)), some (.int (t.length : Nat)), v8, v9, v10, v11, v12] ∧ FI nilH HB fa H6 rs) (fun N hN => ?_) ?_
    · refine ⟨_, rfl, r, _, rfl, SqL.of (g0.s _ _ hra5), for_it (walk_enum (K := K) (a := r) (xs := as.map V.ref)) (fun i σ H6 => ∃ v8 v9 v10 v11 v12, σ = [some (.ref r), some (.ref x), some (.str k.s), v3, some (.ref m), some (.ref fa), some (.int (numAt (wd k) t (before (rs.take i)) : Nat)), some (.int (before (rs.take i) : Nat)), v8, v9, v10, v11, v12] ∧ FI nilH HB fa H6 (rs.take i)) ⟨none, none, none, none, none, rfl, g0⟩ ?_ ?_ ?_⟩
      · rintro i σ H6 - ⟨v8, v9, v10, v11, v12, rfl, g⟩
        exact SqL.of (g.s _ _ hra5)
      · rintro i x' σ H6 H7 hi ⟨v8, v9, v10, v11, v12, rfl, g⟩ ⟨T0, y1, y2, rfl, hT, rfl, e1, e2⟩
        cases e1
        obtain ⟨a, ha, rfl⟩ := lmap_at e2
        obtain ⟨crw, hci, hrow⟩ := pr_at2 hras ha
        rw [List.length_map] at hi
        have hri : rs[i]? = some (rs[i]'(by omega)) := List.getElem?_eq_getElem (by omega)
        have e := crows_at (f := wd k) (t := t) rs 0 i hri
        rw [hci, Nat.zero_add] at e
        obtain rfl := Option.some.inj e
        rw [take_snoc hri, before_append]
        have hb1 := before_le rs (i + 1)
        rw [before_take hri] at hb1
        have hlen : (rs.take i).length ≤ 1300 := by rw [List.length_take]; omega
        have g3 := g.same (same_upd (o := .tup [.int (i : Nat), .ref a]) hT)
        have hT7 : upd H6 T0 (.tup [.int (i : Nat), .ref a]) T0 = some (.tup [.int (i : Nat), .ref a]) := upd_same
        generalize upd H6 T0 (.tup [.int (i : Nat), .ref a]) = H7 at *
        generalize rs[i]'(by omega) = row at *
        generalize hR : rs.take i = R at *
        generalize hB : before R = B at *
        have hrow7 := (hrow.mono sH).mono g3.s
        obtain ⟨xs, hxs, hxl2⟩ := g3.lst
        have hm7 := hm.mono g3.s
        have two : (∃ (b : Bool) (n : Nat), row = rowOf b n) ∨ ∃ cs, row = .put cs := by
          cases row with
          | keep n => exact .inl ⟨false, n, rfl⟩
          | drop n => exact .inl ⟨true, n, rfl⟩
          | put cs => exact .inr ⟨cs, rfl⟩
        rcases two with ⟨b, n, rfl⟩ | ⟨cs, rfl⟩
        · rw [crow_rowOf] at hrow7
          rw [rowOf_ln] at hb1
          have hle := numAt_le (f := wd k) (t := t) (wd1 k) (show B ≤ B + n by omega) (by omega)
          have e1 : H7 a = some (.tup [.str (kdw b), .int (numAt (wd k) t (B + n) - numAt (wd k) t B : Nat)]) := by cases b <;> exact hrow7
          refine ⟨T0, _, rfl, SqT.of hT7, rfl, _, _, rfl, _, _, rfl, a, _, rfl, SqT.of e1, rfl, _, _, rfl, _, _, rfl, rfl, rfl, ?_⟩
          refine seq_join (fun σ H8 => σ = [some (.ref r), some (.ref x), some (.str k.s), v3, some (.ref m), some (.ref fa), some (.int (numAt (wd k) t B : Nat)), some (.int (B : Nat)), some (.int (i : Nat)), some (.str (kdw b)), some (.int (numAt (wd k) t (B + n) - numAt (wd k) t B : Nat)), v11, v12] ∧ H8 = H7) (fun N hN => ?_) ?_
          · refine ⟨_, rfl, rfl, _, rfl, ?_⟩
            rw [kdw_put]
            exact iteF (hN _ _ ⟨rfl, rfl⟩)
          rintro σ H8 ⟨rfl, rfl⟩
          refine seq_join (fun σ H9 => σ = [some (.ref r), some (.ref x), some (.str k.s), v3, some (.ref m), some (.ref fa), some (.int (numAt (wd k) t (B + n) : Nat)), some (.int (B : Nat)), some (.int (i : Nat)), some (.str (kdw b)), some (.int (numAt (wd k) t (B + n) - numAt (wd k) t B : Nat)), v11, v12] ∧ H9 = H8) (fun N hN => ?_) ?_
          · refine ⟨_, rfl, _, rfl, _, _, rfl, rfl, hN _ _ ⟨?_, rfl⟩⟩
            exact congrArg (fun z : Int => ([some (.ref r), some (.ref x), some (.str k.s), v3, some (.ref m), some (.ref fa), some (.int z), some (.int (B : Nat)), some (.int (i : Nat)), some (.str (kdw b)), some (.int (numAt (wd k) t (B + n) - numAt (wd k) t B : Nat)), v11, v12] : List (Option V))) (show (numAt (wd k) t B : Int) + ((numAt (wd k) t (B + n) - numAt (wd k) t B : Nat) : Int) = (numAt (wd k) t (B + n) : Int) by omega)
          rintro σ H9 ⟨rfl, rfl⟩
          refine seq_join (fun σ H10 => σ = [some (.ref r), some (.ref x), some (.str k.s), v3, some (.ref m), some (.ref fa), some (.int (numAt (wd k) t (B + n) : Nat)), some (.int (B : Nat)), some (.int (i : Nat)), some (.str (kdw b)), some (.int (numAt (wd k) t (B + n) - numAt (wd k) t B : Nat)), some (.int ((B + n : Nat))), v12] ∧ H10 = H9) (fun N hN => ?_) ?_
          · exact ⟨_, rfl, m, mx, _, rfl, g3.s _ _ hmm, rfl, _, rfl, m, k, t, B + n, rfl, hm7, by omega, hN _ _ ⟨rfl, rfl⟩⟩
          rintro σ H10 ⟨rfl, rfl⟩
          refine ⟨_, rfl, .inl ⟨rfl, _, SqL.of hxs⟩, _, rfl, _, rfl, _, rfl, _, _, rfl, rfl, lk 2 (by decide), fun t1 ht1 => ⟨fa, xs, _, rfl, rfl, (same_upd ht1) _ _ hxs, szlt _ (by omega), _, rfl, ?_⟩⟩
          rw [rowOf_before]
          refine ⟨_, _, _, _, _, rfl, ?_⟩
          show FI _ _ _ (upd (upd H10 t1 (.tup [.str (kdw b), .int (((B + n : Nat) : Int) - (B : Int))])) fa (.lst (xs ++ [.ref t1]))) _
          rw [show ((B + n : Nat) : Int) - (B : Int) = ((n : Nat) : Int) by omega]
          exact (g3.same (same_upd ht1)).push ((same_upd ht1) _ _ hxs) (g3.num ht1 b n)
        · obtain ⟨l, e1, hl1⟩ := hrow
          have e1 := g3.s _ _ (sH _ _ e1)
          refine ⟨T0, _, rfl, SqT.of hT7, rfl, _, _, rfl, _, _, rfl, a, _, rfl, SqT.of e1, rfl, _, _, rfl, _, _, rfl, rfl, rfl, ?_⟩
          refine ⟨_, rfl, rfl, _, rfl, ?_⟩
          rw [decide_eq_true (show V.str "put" = V.str "put" from rfl)]
          refine iteT ⟨_, rfl, .inl ⟨rfl, _, SqL.of hxs⟩, _, rfl, _, rfl, lk 2 (by decide), fun t1 ht1 => ⟨fa, xs, _, rfl, rfl, (same_upd ht1) _ _ hxs, szlt _ (by omega), _, _, _, _, _, rfl, ?_⟩⟩
          exact (g3.same (same_upd ht1)).push ((same_upd ht1) _ _ hxs) (g3.putr ht1 (LAt.mono g3.frb (LAt.mono nil_fr (hl1.mono sH))))
      · rintro σ H6 ⟨v8, v9, v10, v11, v12, rfl, g⟩
        rw [List.length_map, hal, hcl, List.take_length] at g
        refine hN _ _ ⟨v3, v8, v9, v10, v11, v12, ?_, g⟩
        rw [List.length_map, hal, hcl, List.take_length, hbt]
    clear g0
    rintro σ H6 ⟨v3, v8, v9, v10, v11, v12, rfl, g⟩
    obtain ⟨ys, hys, hyl⟩ := g.lst
    refine ⟨_, rfl, _, rfl, x, tx, _, rfl, g.s _ _ (sH _ _ hxx), x, t, rfl, (hx.mono sH).mono g.s, t.length, rfl, ⟨by omega, by omega⟩, _, rfl, _, _, rfl, rfl, lk 2 (by decide), fun t1 ht1 => ⟨lk 1 (by decide), fun l1 hl1 => ?_⟩⟩
    have nl1 : H6 l1 = none := (same_upd ht1).free hl1
    refine ⟨fa, l1, ys, [.ref t1], rfl, rfl, (same_upd hl1) _ _ ((same_upd ht1) _ _ hys), upd_same, sz _ (by simp; omega), fun z hz => ?_⟩
    have e0 : ((t.length : Nat) : Int) - ((t.length : Nat) : Int) = ((0 : Nat) : Int) := by omega
    obtain ⟨as2, h1, h2⟩ := g.r
    rw [h1] at hys
    obtain rfl : as2.map V.ref = ys := by cases hys; rfl
    have sz6 : Same H6 (upd (upd (upd H6 t1 (.tup [.str "keep", .int (((t.length : Nat) : Int) - ((t.length : Nat) : Int))])) l1 (.lst [.ref t1])) z (.lst (as2.map V.ref ++ [.ref t1]))) := ((same_upd ht1).trans (same_upd hl1)).trans (same_upd hz)
    have hrows : RowsAt (upd (upd (upd H6 t1 (.tup [.str "keep", .int (((t.length : Nat) : Int) - ((t.length : Nat) : Int))])) l1 (.lst [.ref t1])) z (.lst (as2.map V.ref ++ [.ref t1]))) z (rs ++ [.keep 0]) := by
      refine ⟨as2 ++ [t1], ?_, pr_app (pr_imp (fun _ _ y => ((y.mono fr_same).mono msk_same).mono sz6) h2) (.cons ?_ .nil)⟩
      · rw [upd_same, List.map_append]
        rfl
      · show _ = some (HO.tup [.str "keep", .int ((0 : Nat) : Int)])
        rw [← e0]
        exact (same_upd hz) _ _ ((same_upd hl1) _ _ upd_same)
    have hgz : gaps (rs ++ [.keep 0]) = gaps rs := by
      rw [gaps_snoc]
      exact gstep_row0 _ false
    refine ⟨z, rs ++ [.keep 0], rfl, hrows, ?_, ?_, fun H' p s3 ha => ?_⟩
    · rw [before_append]
      show before rs + 0 ≤ _
      omega
    · rw [rputs_append, List.length_append]
      show _ + 0 ≤ _
      omega
    · rw [hgz] at ha
      have sAll : Same H (upd (upd (upd H6 t1 (.tup [.str "keep", .int (((t.length : Nat) : Int) - ((t.length : Nat) : Int))])) l1 (.lst [.ref t1])) z (.lst (as2.map V.ref ++ [.ref t1]))) := (sH.trans g.s).trans sz6
      exact q H' p (sAll.trans s3) (ha.mono (fr_wide2 sAll))
end
end Tc
/-! # The walks: edits -/
namespace Tc
open PySem PySem.Spec PyProof.Rows L2
section
variable {P : Program} {w : World} {K : PySem.W.Frag} {mg : Str → Option Value} {base : Heap} {c : Cs}
/- is_edit: 0 value, 1 first, 2 last, 3 chars, 4 char -/
theorem sc_is_edit : FnScope ["value", "first", "last", "chars", "char"] ["value"] (defScope s_is_edit) := ⟨rfl, rfl, rfl, by decide +kernel, rfl, by decide +kernel, by decide +kernel⟩
theorem bi_is_edit : BindsB "is_edit" "is_edit" s_is_edit ["value"] := fun _ _ _ _ _ _ us hl => match us, hl with | [_], _ => rfl
def spIsEdit : Sp := fun vs H Q _ => ∃ (e l : Addr) (i j : Nat) (cs : List Int), vs = [.ref e] ∧ H e = some (.tup [.int i, .int j, .ref l]) ∧ i ≤ j ∧ j ≤ 100000 ∧ LAt H l cs ∧ cs.length ≤ 600 ∧ (∀ y ∈ cs, ChOk y) ∧ ∀ H', Same H H' → Q (.bl true) H'
theorem ok_is_edit (T : Txt K mg c) (G_is_list : GF P w K mg base 1 "is_list" ["value"] spIsList) (G_is_char : GF P w K mg base 2 "is_char" ["value"] spIsChar) (G_is_integer : GF P w K mg base 1 "is_integer" ["value", "low", "high"] spIsInteger) : GF P w K mg base 3 "is_edit" ["value"] spIsEdit := by
  refine T.d_is_edit.gf sc_is_edit bi_is_edit (fun vs H Q E h => ?_) (fun f cdv A outer s H vs Q E hr h => ?_)
  · obtain ⟨e, l, i, j, cs, rfl, _⟩ := h
    rfl
  · obtain ⟨e, l, i, j, cs, rfl, he, hij, hj, hl, hcl, hcc, q⟩ := h
    refine ⟨_, (pss_cons (ps_if (PW.pt (pw_or (pt_not (pt_val (pe_callB call_isi (by rfl) T.z_isinstance (by decide +kernel) (pa_cons (pv 0) (pa_cons (pe_bltn (by rfl) T.z_tuple (by decide +kernel) (show RelV (.ty "tuple") _ from rfl)) pa_nil))))) (pw_or (pt_cmpR op_ne (pe_callB call_len_seq (by rfl) T.z_len (by decide +kernel) (pa_cons (pv 0) pa_nil)) pe_int (nomark _)) (pw_or (pt_not (pt_val (pe_gf G_is_list hr (pa_cons (pe_ix ix_tup (pv 0) pe_int (fun _ _ => rfl)) pa_nil)))) (pw_or1 (pt_cmpR op_gt (pe_callB call_len_seq (by rfl) T.z_len (by decide +kernel) (pa_cons (pe_ix ix_tup (pv 0) pe_int (fun _ _ => rfl)) pa_nil)) (pe_globE T.i_MOST) (nomark _))))))) (pss_one (ps_ret pe_bl)) pss_nil)
      (pss_cons (ps_asg (pv 0) (pg_tup rfl (pgs_cons (pg_name (i := 1) sc_is_edit.nd rfl (Or.inl rfl)) (pgs_cons (pg_name (i := 2) sc_is_edit.nd rfl (Or.inl rfl)) (pgs_cons (pg_name (i := 3) sc_is_edit.nd rfl (Or.inl rfl)) pgs_nil)))))
      (pss_cons (ps_if (PW.pt (pw_or (pt_not (pt_val (pe_gf G_is_integer hr (pa_cons (pv 1) (pa_cons pe_int (pa_cons (pe_globE T.i_GREATEST) pa_nil)))))) (pw_or1 (pt_not (pt_val (pe_gf G_is_integer hr (pa_cons (pv 2) (pa_cons (pv 1) (pa_cons (pe_globE T.i_GREATEST) pa_nil))))))))) (pss_one (ps_ret pe_bl)) pss_nil)
      (pss_one (ps_ret (pe_callB (cr_allN K) (by rfl) T.z_all (by decide +kernel) (pa_cons (pe_lc (own := [("char", 4)]) (g := gName 4) rfl sc_is_edit.nd (pi_listN K (pv 3)) (blkOk_by (own := [("char", 4)]) (N := ["value", "first", "last", "chars", "char"]) (sc := defScope s_is_edit) (by decide +kernel)) (fun _ _ _ _ _ => pg_name (i := 4) sc_is_edit.nd rfl (by first | exact Or.inl rfl | exact Or.inr rfl)) (fun _ _ _ _ _ => pts_nil) (fun _ _ _ _ _ => (pe_gf G_is_char hr (pa_cons (pv 4) pa_nil)))) pa_nil))))))), ?_⟩
    refine seq_join (fun σ H1 => σ = [some (.ref e), none, none, none, none] ∧ Same H H1) (fun N hN => ?_) ?_
    · refine ⟨_, rfl, _, _, _, _, true, rfl, .ty _, .base (.tup he), kit_ty (by decide +kernel), true, rfl, iteF ?_⟩
      refine ⟨_, rfl, e, _, rfl, .inr (SqT.of he), rfl, _, rfl, iteF ?_⟩
      refine ⟨_, rfl, e, _, 2, .ref l, rfl, rfl, SqT.of he, rfl, l, _, rfl, hl, fun H1 s1 => ⟨true, rfl, iteF ?_⟩⟩
      refine ⟨_, rfl, e, _, 2, .ref l, rfl, rfl, SqT.of (s1 _ _ he), rfl, l, _, rfl, .inl (SqL.of (hl.mono s1)), _, _, rfl, rfl, _, rfl, ?_⟩
      rw [List.length_map, decide_eq_false (show ¬ (600 : Int) < ((cs.length : Nat) : Int) by omega)]
      exact iteF (hN _ _ ⟨rfl, s1⟩)
    rintro σ H1 ⟨rfl, s1⟩
    refine seq_join (fun σ H2 => σ = [some (.ref e), some (.int i), some (.int j), some (.ref l), none] ∧ H2 = H1) (fun N hN => ⟨_, rfl, e, _, rfl, SqT.of (s1 _ _ he), rfl, _, _, rfl, _, _, rfl, _, _, rfl, rfl, hN _ _ ⟨rfl, rfl⟩⟩) ?_
    rintro σ H2 ⟨rfl, rfl⟩
    have b30 : (100000 : Int) ≤ 1000000000000000000000000000000 := by decide
    refine seq_join (fun σ H3 => σ = [some (.ref e), some (.int i), some (.int j), some (.ref l), none] ∧ H3 = H2) (fun N hN => ?_) ?_
    · refine ⟨_, rfl, _, _, _, rfl, _, rfl, ?_⟩
      rw [decide_eq_true (show (0 : Int) ≤ (i : Int) ∧ (i : Int) ≤ 1000000000000000000000000000000 from ⟨by omega, by omega⟩)]
      refine iteF ⟨_, rfl, _, rfl, _, _, _, rfl, _, rfl, ?_⟩
      rw [decide_eq_true (show (i : Int) ≤ (j : Int) ∧ (j : Int) ≤ 1000000000000000000000000000000 from ⟨by omega, by omega⟩)]
      exact iteF (hN _ _ ⟨rfl, rfl⟩)
    rintro σ H3 ⟨rfl, rfl⟩
    have hl2 := hl.mono s1
    refine ⟨_, rfl, l, rfl, ⟨_, SqL.of hl2⟩, fun L hL => ?_⟩
    refine lc_list (K := K) (a := l) (xs := cs.map V.int) (fun i H4 => Same H3 H4 ∧ H4 L = some (.lst ((List.replicate i true).map V.bl))) ⟨same_upd hL, upd_same⟩ (fun i H4 _ z => SqL.of (z.1 _ _ hl2)) ?_ ?_
    · rintro i y H4 hy ⟨s3, h3⟩
      obtain ⟨z, hz, rfl⟩ := map_at_int hy
      have hi := (List.getElem?_eq_some_iff.mp hz).1
      refine ⟨rfl, yesT ⟨_, rfl, z, rfl, hcc z (List.mem_of_getElem? hz), _, h3, szlt _ (by simp; omega), same_mut s3 hL, ?_⟩⟩
      rw [upd_same, List.replicate_succ', List.map_append]
      rfl
    · rintro H4 ⟨s3, h3⟩
      refine ⟨L, _, rfl, SqL.of h3, ?_⟩
      rw [all_true]
      exact q _ (s1.trans s3)
/- need_edits: 0 edits, 1 text, 2 kind -/
theorem sc_need_edits : FnScope ["edits", "text", "kind"] ["edits", "text", "kind"] (defScope s_need_edits) := ⟨rfl, rfl, rfl, by decide +kernel, rfl, by decide +kernel, by decide +kernel⟩
theorem bi_need_edits : BindsB "need_edits" "need_edits" s_need_edits ["edits", "text", "kind"] := fun _ _ _ _ _ _ us hl => match us, hl with | [_, _, _], _ => rfl
def spNeedEdits (c : Cs) : Sp := fun vs H Q _ => ∃ (l x : Addr) (xs : List V) (t : List Int) (k : Kd), vs = [.ref l, .ref x, .str k.s] ∧ H l = some (.lst xs) ∧ xs.length ≤ 60 ∧ TextAt c H x t ∧ ∀ H', Same H H' → Q .non H'
theorem ok_need_edits (T : Txt K mg c) (G_is_list : GF P w K mg base 1 "is_list" ["value"] spIsList) (G_need_text : GF P w K mg base 1 "need_text" ["value"] (spNeedText c)) (G_need_kind : GF P w K mg base 2 "need_kind" ["value"] spNeedKind) : GF P w K mg base 3 "need_edits" ["edits", "text", "kind"] (spNeedEdits c) := by
  refine T.d_need_edits.gf sc_need_edits bi_need_edits (fun vs H Q E h => ?_) (fun f cdv A outer s H vs Q E hr h => ?_)
  · obtain ⟨l, x, xs, t, k, rfl, _⟩ := h
    rfl
  · obtain ⟨l, x, xs, t, k, rfl, hl, hxl, hx, q⟩ := h
    refine ⟨_, (pss_cons (ps_if (PW.pt (pw_or (pt_not (pt_val (pe_gf G_is_list hr (pa_cons (pv 0) pa_nil)))) (pw_or1 (pt_cmpR op_gt (pe_callB call_len_seq (by rfl) T.z_len (by decide +kernel) (pa_cons (pv 0) pa_nil)) (pe_globE T.i_MAX_EDITS) (nomark _))))) (pss_one ps_never) pss_nil)
      (pss_cons (ps_expr (pe_gf G_need_text hr (pa_cons (pv 1) pa_nil)))
      (pss_one (ps_expr (pe_gf G_need_kind hr (pa_cons (pv 2) pa_nil)))))), ?_⟩
    refine ⟨_, rfl, l, _, rfl, hl, fun H1 s1 => ⟨true, rfl, iteF ?_⟩⟩
    refine ⟨_, rfl, l, _, rfl, .inl (SqL.of (s1 _ _ hl)), _, _, rfl, rfl, _, rfl, ?_⟩
    rw [decide_eq_false (show ¬ (60 : Int) < ((xs.length : Nat) : Int) by omega)]
    exact iteF ⟨_, rfl, x, t, rfl, hx.mono s1, _, rfl, k, rfl, q _ s1⟩
/- stands: 0 item, 1 marks, 2 first, 3 last, 4 chars -/
theorem sc_stands : FnScope ["item", "marks", "first", "last", "chars"] ["item", "marks"] (defScope s_stands) := ⟨rfl, rfl, rfl, by decide +kernel, rfl, by decide +kernel, by decide +kernel⟩
theorem bi_stands : BindsB "stands" "stands" s_stands ["item", "marks"] := fun _ _ _ _ _ _ us hl => match us, hl with | [_, _], _ => rfl
def spStands (c : Cs) : Sp := fun vs H Q _ => ∃ (e m l : Addr) (t : List Int) (k : Kd) (i j : Nat) (cs : List Int), vs = [.ref e, .ref m] ∧ H e = some (.tup [.int (numAt (wd k) t i : Nat), .int (numAt (wd k) t j : Nat), .ref l]) ∧ MarksAt c H m k t ∧ i ≤ j ∧ j ≤ t.length ∧ t.length ≤ 600 ∧ LAt H l cs ∧ cs.length ≤ 600 ∧ (∀ y ∈ cs, ChOk y) ∧
  ∀ H' p l2, Same H H' → H' p = some (.tup [.int i, .int j, .ref l2]) → LAt (Fr H H') l2 cs → Q (.ref p) H'
theorem ok_stands (T : Txt K mg c) (G_is_edit : GF P w K mg base 3 "is_edit" ["value"] spIsEdit) (G_Marks_place : MF P w K mg base 1 c.ma "place" ["self", "number"] [] (spPlace c)) : GF P w K mg base 4 "stands" ["item", "marks"] (spStands c) := by
  refine T.d_stands.gf sc_stands bi_stands (fun vs H Q E h => ?_) (fun f cdv A outer s H vs Q E hr h => ?_)
  · obtain ⟨e, m, l, t, k, i, j, cs, rfl, _⟩ := h
    rfl
  · obtain ⟨e, m, l, t, k, i, j, cs, rfl, he, hm, hij, hj, ht, hl, hcl, hcc, q⟩ := h
    refine ⟨_, (pss_cons (ps_if (pt_not (pt_val (pe_gf G_is_edit hr (pa_cons (pv 0) pa_nil)))) (pss_one ps_never) pss_nil)
      (pss_cons (ps_asg (pv 0) (pg_tup rfl (pgs_cons (pg_name (i := 2) sc_stands.nd rfl (Or.inl rfl)) (pgs_cons (pg_name (i := 3) sc_stands.nd rfl (Or.inl rfl)) (pgs_cons (pg_name (i := 4) sc_stands.nd rfl (Or.inl rfl)) pgs_nil)))))
      (pss_one (ps_ret (pe_tup (pa_cons (pe_mf G_Marks_place T.cl_ma hr (pv 1) (pa_cons (pv 2) pa_nil)) (pa_cons (pe_mf G_Marks_place T.cl_ma hr (pv 1) (pa_cons (pv 3) pa_nil)) (pa_cons (pe_callTy call_list_of (by rfl) T.z_list (by decide +kernel) (pa_cons (pv 4) pa_nil)) pa_nil)))))))), ?_⟩
    have n1 := numAt_le (f := wd k) (t := t) (wd1 k) hij hj
    have n2 := numAt_max (f := wd k) (t := t) (wd4 k) j hj
    refine seq_join (fun σ H1 => σ = [some (.ref e), some (.ref m), none, none, none] ∧ Same H H1) (fun N hN => ⟨_, rfl, e, l, _, _, cs, rfl, he, n1, by omega, hl, hcl, hcc, fun H1 s1 => ⟨true, rfl, iteF (hN _ _ ⟨rfl, s1⟩)⟩⟩) ?_
    rintro σ H1 ⟨rfl, s1⟩
    obtain ⟨mx, mn, md, hmm, _⟩ := id hm
    refine seq_join (fun σ H2 => σ = [some (.ref e), some (.ref m), some (.int (numAt (wd k) t i : Nat)), some (.int (numAt (wd k) t j : Nat)), some (.ref l)] ∧ H2 = H1) (fun N hN => ⟨_, rfl, e, _, rfl, SqT.of (s1 _ _ he), rfl, _, _, rfl, _, _, rfl, _, _, rfl, rfl, hN _ _ ⟨rfl, rfl⟩⟩) ?_
    rintro σ H2 ⟨rfl, rfl⟩
    refine ⟨_, rfl, m, mx, _, rfl, s1 _ _ hmm, rfl, _, rfl, m, k, t, i, rfl, hm.mono s1, by omega, ?_⟩
    refine ⟨_, rfl, m, mx, _, rfl, s1 _ _ hmm, rfl, _, rfl, m, k, t, j, rfl, hm.mono s1, hj, ?_⟩
    refine ⟨_, rfl, l, _, rfl, .inl (SqL.of (hl.mono s1)), fun l2 hl2 => ⟨lk 3 (by decide), fun p hp => q _ p l2 ((s1.trans (same_upd hl2)).trans (same_upd hp)) upd_same ?_⟩⟩
    show Fr H _ l2 = _
    unfold Fr
    rw [if_pos (s1.free hl2)]
    exact (same_upd hp) _ _ upd_same
theorem msk_two {H : Hp} {p q : Addr} {o : HO} (h : H q = none) : Same (Msk H [p]) (Msk (upd H q o) [p, q]) := fun b u e => by
  have nb : b ∉ [p] := fun z => by rw [msk_in z] at e; cases e
  rw [msk_at nb] at e
  have nq := ne_of_none e h
  rw [msk_at (by simp at nb ⊢; exact ⟨nb, nq⟩), upd_ne nq]
  exact e
theorem GI.setd {H H1 : Hp} {pa da : Addr} {D : Dl} (g : GI H pa da H1 D) (ds : List Bool) : GI H pa da (upd H1 da (.lst (ds.map V.bl))) ⟨D.ps, ds⟩ := by
  obtain ⟨s, np, nd, ne, ⟨as, h1, h2⟩, hd⟩ := g
  refine ⟨same_mut s nd, np, nd, ne, ⟨as, ?_, ?_⟩, upd_same⟩
  · rw [upd_ne ne]; exact h1
  · rw [msk_mut (by simp)]; exact h2
theorem GI.setp {H H1 : Hp} {pa da z : Addr} {D : Dl} {as : List Addr} {b : Nat} {cs : List Int} (g : GI H pa da H1 D) (h1 : H1 pa = some (.lst (as.map V.ref))) (hz : H1 z = none) :
    GI H pa da (upd (upd H1 z (.lst (cs.map V.int))) pa (.lst ((as.map V.ref).set b (.ref z)))) ⟨D.ps.set b cs, D.ds⟩ := by
  obtain ⟨s, np, nd, ne, ⟨as2, h1', h2⟩, hd⟩ := g
  rw [h1] at h1'
  have e : as.map V.ref = as2.map V.ref := HO.lst.inj (Option.some.inj h1')
  have pz : pa ≠ z := ne_of_none h1 hz
  have dz : da ≠ z := ne_of_none hd hz
  have sm : Same (Msk H1 [pa, da]) (Msk (upd (upd H1 z (.lst (cs.map V.int))) pa (.lst ((as.map V.ref).set b (.ref z)))) [pa, da]) := by
    rw [msk_mut (by simp)]
    exact msk_mono (same_upd hz)
  refine ⟨same_mut (s.trans (same_upd hz)) np, np, nd, ne, ⟨as2.set b z, ?_, pr_put ?_ b (pr_imp (fun _ _ y => y.mono (fr_next sm)) h2)⟩, ?_⟩
  · rw [upd_same, e, List.map_set]
  · show Fr H _ z = _
    unfold Fr
    rw [if_pos (s.free hz), msk_at (by simp [pz.symm, dz.symm]), upd_ne pz.symm, upd_same]
  · rw [upd_ne ne.symm, upd_ne dz]
    exact hd
/- rows_of: 0 places, 1 many, 2 gap, 3 puts, 4 place, 5 drops, 6 first, 7 last, 8 chars, 9 found -/
theorem sc_rows_of : FnScope ["places", "many", "gap", "puts", "place", "drops", "first", "last", "chars", "found"] ["places", "many"] (defScope s_rows_of) := ⟨rfl, rfl, rfl, by decide +kernel, rfl, by decide +kernel, by decide +kernel⟩
theorem bi_rows_of : BindsB "rows_of" "rows_of" s_rows_of ["places", "many"] := fun _ _ _ _ _ _ us hl => match us, hl with | [_, _], _ => rfl
def edPs (b n : Nat) (cs : List Int) : List (List Int) := (List.replicate (n + 1) []).set b cs
def edDs (b l n : Nat) : List Bool := (List.range n).map fun g => decide (b ≤ g ∧ g < l)
theorem edPs_at {b n : Nat} {cs : List Int} {g : Nat} (hg : g ≤ n) (hb : b ≤ n) : (edPs b n cs)[g]? = some (if g = b then cs else []) := by
  unfold edPs
  by_cases h : g = b
  · rw [if_pos h, h, List.getElem?_set_self (by simp; omega)]
  · rw [if_neg h, List.getElem?_set_ne (fun z => h z.symm), List.getElem?_replicate, if_pos (by omega)]
theorem edDs_at {b l n g : Nat} (hg : g < n) : (edDs b l n)[g]? = some (decide (b ≤ g ∧ g < l)) := by
  unfold edDs
  rw [List.getElem?_map, List.getElem?_range hg]
  rfl
theorem edDs_set {b j n : Nat} (h : b + j < n) : (edDs b (b + j) n).set (b + j) true = edDs b (b + (j + 1)) n := by
  refine List.ext_getElem? fun g => ?_
  by_cases hg : g < n
  · by_cases e : g = b + j
    · subst e
      rw [List.getElem?_set_self (by simp [edDs]; omega), edDs_at hg, decide_eq_true (by omega)]
    · rw [List.getElem?_set_ne (fun z => e z.symm), edDs_at hg, edDs_at hg]
      refine congrArg some (decide_eq_decide.mpr ?_)
      omega
  · rw [List.getElem?_eq_none (by simp [edDs]; omega), List.getElem?_eq_none (by simp [edDs]; omega)]
def spRowsOf : Sp := fun vs H Q _ => ∃ (pl e cl : Addr) (b l n : Nat) (cs : List Int), vs = [.ref pl, .int n] ∧ H pl = some (.lst [.ref e]) ∧ H e = some (.tup [.int b, .int l, .ref cl]) ∧ LAt H cl cs ∧ b ≤ l ∧ l ≤ n ∧ n ≤ 1000 ∧ cs.length ≤ 600 ∧
  ∀ H' a, Same H H' → RowsAt H' a (ed b l n cs) → Q (.ref a) H'
theorem ok_rows_of (T : Txt K mg c) : GF P w K mg base 1 "rows_of" ["places", "many"] spRowsOf := by
  refine T.d_rows_of.gf sc_rows_of bi_rows_of (fun vs H Q E h => ?_) (fun f cdv A outer s H vs Q E hr h => ?_)
  · obtain ⟨pl, e, cl, b, l, n, cs, rfl, _⟩ := h
    rfl
  · obtain ⟨pl, e, cl, b, l, n, cs, rfl, hpl, he, hcl, hbl, hln, hn, hcs, q⟩ := h
    refine ⟨_, (pss_cons (ps_setLc (i := 3) (own := [("gap", 2)]) (g := gName 2) rfl sc_rows_of.nd rfl rfl (sw_true rfl rfl rfl (by decide +kernel)) (pi_range1 (by rfl) T.z_range (pa_cons (pe_op op_add (pv 1) pe_int) pa_nil)) (blkOk_by (own := [("gap", 2)]) (N := ["places", "many", "gap", "puts", "place", "drops", "first", "last", "chars", "found"]) (sc := defScope s_rows_of) (by decide +kernel)) (fun _ _ _ _ _ => pg_name (i := 2) sc_rows_of.nd rfl (by first | exact Or.inl rfl | exact Or.inr rfl)) (fun _ _ _ _ _ => pts_nil) (fun _ _ _ _ _ => (pe_lst pa_nil)))
      (pss_cons (ps_setLc (i := 5) (own := [("place", 4)]) (g := gName 4) rfl sc_rows_of.nd rfl rfl (sw_true rfl rfl rfl (by decide +kernel)) (pi_range1 (by rfl) T.z_range (pa_cons (pv 1) pa_nil)) (blkOk_by (own := [("place", 4)]) (N := ["places", "many", "gap", "puts", "place", "drops", "first", "last", "chars", "found"]) (sc := defScope s_rows_of) (by decide +kernel)) (fun _ _ _ _ _ => pg_name (i := 4) sc_rows_of.nd rfl (by first | exact Or.inl rfl | exact Or.inr rfl)) (fun _ _ _ _ _ => pts_nil) (fun _ _ _ _ _ => pe_bl))
      (pss_cons (ps_for PassesOwn.never rfl (pi_listN K (pv 0)) (pg_tup rfl (pgs_cons (pg_name (i := 6) sc_rows_of.nd rfl (Or.inl rfl)) (pgs_cons (pg_name (i := 7) sc_rows_of.nd rfl (Or.inl rfl)) (pgs_cons (pg_name (i := 8) sc_rows_of.nd rfl (Or.inl rfl)) pgs_nil))))
      (pss_cons (ps_asg (pe_op op_cat (pe_ix ix_list (pv 3) (pv 6) (fun _ _ => rfl)) (pv 8)) (pg_sub (pv 3) (pv 6) set_list))
      (pss_one (ps_for PassesOwn.never rfl (pi_range2 (by rfl) T.z_range (pa_cons (pv 6) (pa_cons (pv 7) pa_nil))) (pg_name (i := 4) sc_rows_of.nd rfl (Or.inl rfl))
      (pss_one (ps_asg pe_bl (pg_sub (pv 5) (pv 4) set_list)))))))
      (pss_cons (ps_set (i := 9) sc_rows_of.nd rfl (Or.inl rfl) (pe_lst pa_nil))
      (pss_cons (ps_for PassesOwn.never rfl (pi_enum (by rfl) T.z_enumerate (pa_cons (pv 3) pa_nil)) (pg_tup rfl (pgs_cons (pg_name (i := 2) sc_rows_of.nd rfl (Or.inl rfl)) (pgs_cons (pg_name (i := 8) sc_rows_of.nd rfl (Or.inl rfl)) pgs_nil)))
      (pss_cons (ps_expr (pe_bm PySem.F.plainAttrs_list PySem.F.slot_list_append PySem.F.type_list_append mt_append (pv 9) (pa_cons (pe_tup (pa_cons (pe_globE T.s_PUT) (pa_cons (pv 8) pa_nil))) pa_nil)))
      (pss_one (ps_if (pt_cmpR op_lt (pv 2) (pv 1) (nomark _)) (pss_one (ps_expr (pe_bm PySem.F.plainAttrs_list PySem.F.slot_list_append PySem.F.type_list_append mt_append (pv 9) (pa_cons (pe_tup (pa_cons (pe_ifExp (pt_val (pe_ix ix_list (pv 5) (pv 2) (fun _ _ => rfl))) (pe_globE T.s_DROP) (pe_globE T.s_KEEP)) (pa_cons pe_int pa_nil))) pa_nil)))) pss_nil))))
      (pss_one (ps_ret (pv 9)))))))), ?_⟩
    refine seq_join (fun σ H1 => ∃ pa as, σ = [some (.ref pl), some (.int n), none, some (.ref pa), none, none, none, none, none, none] ∧ Same H H1 ∧ H pa = none ∧ H1 pa = some (.lst (as.map V.ref)) ∧ Paired (LAt (Fr H (Msk H1 [pa]))) as (List.replicate (n + 1) [])) (fun N hN => ?_) ?_
    · refine ⟨_, rfl, _, _, rfl, rfl, _, rfl, by omega, by omega, fun L hL => ?_⟩
      have hn1 : ((n : Int) + 1).toNat = n + 1 := by omega
      rw [hn1]
      refine lc_range (lo := 0) (n := n + 1) (fun i H3 => Same H H3 ∧ ∃ as : List Addr, H3 L = some (.lst (as.map V.ref)) ∧ Paired (LAt (Fr H (Msk H3 [L]))) as (List.replicate i [])) ⟨same_upd hL, [], upd_same, .nil⟩ ?_ ?_
      · rintro i H3 hi ⟨s3, as, h1, h2⟩
        refine ⟨rfl, yesT ⟨lk 0 (by decide), fun e1 he1 => ⟨_, (same_upd he1) _ _ h1, szlt _ (by rw [List.length_map, pr_len h2, List.length_replicate]; omega), same_mut (s3.trans (same_upd he1)) hL, as ++ [e1], ?_, ?_⟩⟩⟩
        · rw [upd_same, List.map_append]
          rfl
        · rw [List.replicate_succ', msk_mut (by simp)]
          refine pr_app (pr_imp (fun _ _ y => y.mono (fr_next (msk_mono (same_upd he1)))) h2) (.cons ?_ .nil)
          show Fr H (Msk _ [L]) e1 = _
          have : e1 ≠ L := (ne_of_none h1 he1).symm
          unfold Fr
          rw [if_pos (s3.free he1), msk_at (by simpa using this)]
          exact upd_same
      · rintro H3 ⟨s3, as, h1, h2⟩
        exact hN _ _ ⟨L, as, rfl, s3, hL, h1, h2⟩
    rintro σ H1 ⟨pa, as, rfl, s1, npa, h1, h2⟩
    refine seq_join (fun σ H2 => ∃ da, σ = [some (.ref pl), some (.int n), none, some (.ref pa), none, some (.ref da), none, none, none, none] ∧ GI H pa da H2 ⟨List.replicate (n + 1) [], List.replicate n false⟩) (fun N hN => ?_) ?_
    · refine ⟨_, rfl, _, rfl, by omega, by omega, fun L hL => ?_⟩
      have hn1 : (n : Int).toNat = n := by omega
      rw [hn1]
      have npL : pa ≠ L := ne_of_none h1 hL
      refine lc_range (lo := 0) (n := n) (fun i H3 => GI H pa L H3 ⟨List.replicate (n + 1) [], List.replicate i false⟩) ⟨s1.trans (same_upd hL), npa, s1.free hL, npL, ⟨as, ?_, pr_imp (fun _ _ y => y.mono (fr_next (msk_two hL))) h2⟩, upd_same⟩ ?_ ?_
      · rw [upd_ne npL]
        exact h1
      · rintro i H3 hi g
        refine ⟨rfl, yesT ⟨_, g.d, szlt _ (by simp; omega), ?_⟩⟩
        have := g.setd (List.replicate (i + 1) false)
        have e : List.replicate (i + 1) false = List.replicate i false ++ [false] := List.replicate_succ'
        rw [e, List.map_append] at this
        rw [e]
        exact this
      · rintro H3 g
        exact hN _ _ ⟨L, rfl, g⟩
    clear h1 h2 as s1
    rintro σ H2 ⟨da, rfl, g0⟩
    refine seq_join (fun σ H3 => ∃ v4 v6 v7 v8, σ = [some (.ref pl), some (.int n), none, some (.ref pa), v4, some (.ref da), v6, v7, v8, none] ∧ GI H pa da H3 ⟨edPs b n cs, edDs b l n⟩) (fun N hN => ?_) ?_
    · refine ⟨_, rfl, pl, rfl, ⟨_, SqL.of (g0.s _ _ hpl)⟩, for_list (K := K) (a := pl) (xs := [.ref e]) (fun i σ H3 => ∃ v4 v6 v7 v8, σ = [some (.ref pl), some (.int n), none, some (.ref pa), v4, some (.ref da), v6, v7, v8, none] ∧ GI H pa da H3 (if i = 0 then ⟨List.replicate (n + 1) [], List.replicate n false⟩ else ⟨edPs b n cs, edDs b l n⟩)) ⟨none, none, none, none, rfl, g0⟩ ?_ ?_ ?_⟩
      · rintro i σ H3 - ⟨v4, v6, v7, v8, rfl, g⟩
        exact SqL.of (g.s _ _ hpl)
      · rintro i x σ H3 hx ⟨v4, v6, v7, v8, rfl, g⟩
        have hi : i = 0 := by
          have := (List.getElem?_eq_some_iff.mp hx).1
          simp at this
          exact this
        subst hi
        obtain rfl : V.ref e = x := by simpa using hx
        rw [if_pos rfl] at g
        refine ⟨e, _, rfl, SqT.of (g.s _ _ he), rfl, _, _, rfl, _, _, rfl, _, _, rfl, rfl, ?_⟩
        obtain ⟨as, h1, h2⟩ := g.P
        obtain ⟨x0, hx0, hx1⟩ := pr_at h2 (show (List.replicate (n + 1) ([] : List Int))[b]? = some [] by rw [List.getElem?_replicate, if_pos (by omega)])
        have hx2 : H3 x0 = some (.lst []) := msk_same _ _ (fr_same _ _ hx1)
        have hal : as.length = n + 1 := by
          have := pr_len h2
          simpa using this
        refine seq_join (fun σ H4 => σ = [some (.ref pl), some (.int n), none, some (.ref pa), v4, some (.ref da), some (.int b), some (.int l), some (.ref cl), none] ∧ GI H pa da H4 ⟨edPs b n cs, List.replicate n false⟩) (fun N2 hN2 => ?_) ?_
        · refine ⟨_, rfl, _, rfl, pa, as.map V.ref, (b : Int), .ref x0, rfl, rfl, SqL.of h1, atI_of (by rw [List.getElem?_map, hx0]; rfl), _, rfl, x0, cl, [], cs.map V.int, rfl, rfl, hx2, g.s _ _ hcl, sz _ (by simp; omega), fun z hz => ?_⟩
          refine ⟨_, rfl, _, rfl, pa, as.map V.ref, (b : Int), b, rfl, rfl, (same_upd hz) _ _ h1, ixN_of (by rw [List.length_map]; omega), hN2 _ _ ⟨rfl, ?_⟩⟩
          exact g.setp h1 hz
        clear g h1 h2 hx0 hx1 hx2
        rintro σ H4 ⟨rfl, g⟩
        have hlb : ((l : Int) - (b : Int)).toNat = l - b := by omega
        refine ⟨_, rfl, _, rfl, _, _, rfl, ⟨by omega, by omega, by omega, by omega⟩, ?_⟩
        rw [hlb]
        refine for_range (fun j σ H5 => ∃ v4, σ = [some (.ref pl), some (.int n), none, some (.ref pa), v4, some (.ref da), some (.int b), some (.int l), some (.ref cl), none] ∧ GI H pa da H5 ⟨edPs b n cs, edDs b (b + j) n⟩) ⟨v4, rfl, ?_⟩ ?_ ?_
        · have e0 : edDs b (b + 0) n = List.replicate n false := by
            refine List.ext_getElem? fun g => ?_
            by_cases hg : g < n
            · rw [edDs_at hg, List.getElem?_replicate, if_pos hg, decide_eq_false (by omega)]
            · rw [List.getElem?_eq_none (by simp [edDs]; omega), List.getElem?_eq_none (by simp; omega)]
          rw [e0]
          exact g
        · rintro j σ H5 hj ⟨v4, rfl, g5⟩
          refine ⟨_, rfl, _, rfl, da, _, ((b + j : Nat) : Int), b + j, rfl, rfl, g5.d, ixN_of (by simp [edDs]; omega), ⟨_, rfl, ?_⟩⟩
          have := g5.setd (edDs b (b + (j + 1)) n)
          rw [← edDs_set (by omega), List.map_set] at this
          rw [← edDs_set (by omega)]
          exact this
        · rintro σ H5 ⟨v4, rfl, g5⟩
          refine ⟨_, _, _, _, rfl, ?_⟩
          rw [show b + (l - b) = l by omega] at g5
          exact g5
      · rintro σ H3 ⟨v4, v6, v7, v8, rfl, g⟩
        exact hN _ _ ⟨v4, v6, v7, v8, rfl, g⟩
    clear g0
    rintro σ H3 ⟨v4, v6, v7, v8, rfl, g⟩
    obtain ⟨as, h1, h2⟩ := g.P
    have hal : as.length = n + 1 := by
      have := pr_len h2
      simpa [edPs] using this
    refine ⟨lk 0 (by decide), fun fa hfa => ?_⟩
    refine ⟨_, rfl, pa, _, rfl, SqL.of ((same_upd hfa) _ _ h1), for_it (walk_enum (K := K) (a := pa) (xs := as.map V.ref)) (fun i σ H4 => ∃ v2 v8, σ = [some (.ref pl), some (.int n), v2, some (.ref pa), v4, some (.ref da), v6, v7, v8, some (.ref fa)] ∧ FI nilH H3 fa H4 (edTo b l n cs i) ∧ (edTo b l n cs i).length ≤ 2 * i) ⟨none, v8, rfl, FI.start nil_same hfa, Nat.le_refl _⟩ ?_ ?_ ?_⟩
    · rintro i σ H4 - ⟨v2, v8, rfl, g4, _⟩
      exact SqL.of (g4.s _ _ h1)
    · rintro i x' σ H4 H5 hi ⟨v2, v8, rfl, g4, hll⟩ ⟨T0, y1, y2, rfl, hT, rfl, e1, e2⟩
      cases e1
      obtain ⟨x0, hx0, rfl⟩ := lmap_at e2
      rw [List.length_map] at hi
      obtain ⟨cs0, hc0, hL⟩ := pr_at2 h2 hx0
      rw [edPs_at (by omega) (by omega)] at hc0
      have hnx : edTo b l n cs (i + 1) = edTo b l n cs i ++ edAt b l n cs i := frange_succ _ _
      have hat : edAt b l n cs i = .put cs0 :: (if i < n then [rowOf (decide (b ≤ i ∧ i < l)) 1] else []) := by unfold edAt; rw [Option.some.inj hc0]
      rw [hnx, hat]
      have g5 := g4.same (same_upd (o := .tup [.int (i : Nat), .ref x0]) hT)
      have hT5 : upd H4 T0 (.tup [.int (i : Nat), .ref x0]) T0 = some (.tup [.int (i : Nat), .ref x0]) := upd_same
      generalize upd H4 T0 (.tup [.int (i : Nat), .ref x0]) = H5 at *
      generalize edTo b l n cs i = R at *
      refine ⟨T0, _, rfl, SqT.of hT5, rfl, _, _, rfl, _, _, rfl, rfl, ?_⟩
      obtain ⟨xs, hxs, hxl⟩ := g5.lst
      refine seq_join (fun σ H6 => σ = [some (.ref pl), some (.int n), some (.int (i : Nat)), some (.ref pa), v4, some (.ref da), v6, v7, some (.ref x0), some (.ref fa)] ∧ FI nilH H3 fa H6 (R ++ [.put cs0])) (fun N hN => ?_) ?_
      · refine ⟨_, rfl, .inl ⟨rfl, _, SqL.of hxs⟩, _, rfl, lk 2 (by decide), fun t1 ht1 => ⟨fa, xs, _, rfl, rfl, (same_upd ht1) _ _ hxs, szlt _ (by omega), hN _ _ ⟨rfl, ?_⟩⟩⟩
        exact (g5.same (same_upd ht1)).push ((same_upd ht1) _ _ hxs) (g5.putr ht1 (LAt.mono g5.frb (LAt.mono nil_fr (LAt.mono msk_same (LAt.mono fr_same hL)))))
      clear hxs hxl xs
      rintro σ H6 ⟨rfl, g6⟩
      obtain ⟨xs, hxs, hxl⟩ := g6.lst
      rw [List.length_append, List.length_singleton] at hxl
      refine ⟨_, rfl, _, rfl, _, _, rfl, rfl, _, rfl, ?_⟩
      by_cases hin : i < n
      · rw [decide_eq_true (show (i : Int) < (n : Int) by omega), if_pos hin]
        refine iteT ⟨_, rfl, .inl ⟨rfl, _, SqL.of hxs⟩, _, rfl, _, rfl, da, _, (i : Int), .bl (decide (b ≤ i ∧ i < l)), rfl, rfl, SqL.of (g6.s _ _ g.d), atI_of (by rw [List.getElem?_map, edDs_at hin]; rfl), _, rfl, ?_⟩
        cases hb : decide (b ≤ i ∧ i < l) with
        | true =>
          refine iteT ⟨lk 2 (by decide), fun t1 ht1 => ⟨fa, xs, _, rfl, rfl, (same_upd ht1) _ _ hxs, szlt _ (by omega), _, _, rfl, ?_, ?_⟩⟩
          · have := (g6.same (same_upd ht1)).push ((same_upd ht1) _ _ hxs) (g6.num ht1 true 1)
            rwa [List.append_assoc] at this
          · rw [List.length_append]
            show _ + 2 ≤ _
            omega
        | false =>
          refine iteF ⟨lk 2 (by decide), fun t1 ht1 => ⟨fa, xs, _, rfl, rfl, (same_upd ht1) _ _ hxs, szlt _ (by omega), _, _, rfl, ?_, ?_⟩⟩
          · have := (g6.same (same_upd ht1)).push ((same_upd ht1) _ _ hxs) (g6.num ht1 false 1)
            rwa [List.append_assoc] at this
          · rw [List.length_append]
            show _ + 2 ≤ _
            omega
      · rw [decide_eq_false (show ¬ (i : Int) < (n : Int) by omega), if_neg hin]
        refine iteF ⟨_, _, rfl, g6, ?_⟩
        rw [List.length_append]
        show _ + 1 ≤ _
        omega
    · rintro σ H4 ⟨v2, v8, rfl, g4, _⟩
      rw [List.length_map, hal] at g4
      exact ⟨_, rfl, q _ fa (g.s.trans g4.s) (g4.done.mono fr_same)⟩
/- together: 0 edits, 1 text, 2 kind, 3 marks, 4 places, 5 index, 6 item, 7 edit (cell), 8 other -/
theorem sc_together : FnScope ["edits", "text", "kind", "marks", "places", "index", "item", "edit", "other"] ["edits", "text", "kind"] (defScope s_together) := ⟨rfl, rfl, rfl, by decide +kernel, rfl, by decide +kernel, by decide +kernel⟩
theorem bi_together : BindsB "together" "together" s_together ["edits", "text", "kind"] := fun _ _ _ _ _ _ us hl => match us, hl with | [_, _, _], _ => rfl
def spTogether (c : Cs) : Sp := fun vs H Q _ => ∃ (el e x cl : Addr) (t : List Int) (k : Kd) (b l : Nat) (cs : List Int), vs = [.ref el, .ref x, .str k.s] ∧ H el = some (.lst [.ref e]) ∧ H e = some (.tup [.int (numAt (wd k) t b : Nat), .int (numAt (wd k) t l : Nat), .ref cl]) ∧ TextAt c H x t ∧ LAt H cl cs ∧ b ≤ l ∧ l ≤ t.length ∧ t.length ≤ 600 ∧ cs.length ≤ 600 ∧ (∀ y ∈ cs, ChOk y) ∧
  ∀ H' p, Same H H' → DelAt c (Fr H H') p (gaps (ed b l t.length cs)) → Q (.ref p) H'
theorem ok_together (T : Txt K mg c) (G_need_edits : GF P w K mg base 3 "need_edits" ["edits", "text", "kind"] (spNeedEdits c)) (G_Marks_init : KF P w K mg base 2 "Marks" c.ma ["self", "text", "kind"] (spMarksInit c)) (G_stands : GF P w K mg base 4 "stands" ["item", "marks"] (spStands c)) (G_rows_of : GF P w K mg base 1 "rows_of" ["places", "many"] spRowsOf)
    (G_Text_len : MF P w K mg base 1 c.tx "__len__" ["self"] [] (spTextLen c)) (G_delta_of : GF P w K mg base 5 "delta_of" ["rows"] (spDeltaOf c)) : GF P w K mg base 6 "together" ["edits", "text", "kind"] (spTogether c) := by
  refine T.d_together.gf sc_together bi_together (fun vs H Q E h => ?_) (fun f cdv A outer s H vs Q E hr h => ?_)
  · obtain ⟨el, e, x, cl, t, k, b, l, cs, rfl, _⟩ := h
    rfl
  · obtain ⟨el, e, x, cl, t, k, b, l, cs, rfl, hel, he, hx, hcl, hbl, hlt, ht, hcs, hcc, q⟩ := h
    obtain ⟨tx, tl, tv, hxx, hxl⟩ := id hx
    refine ⟨_, (pss_cons (ps_expr (pe_gf G_need_edits hr (pa_cons (pv 0) (pa_cons (pv 1) (pa_cons (pv 2) pa_nil)))))
      (pss_cons (ps_par (i := 3) (j := 4) (by rfl) sc_together.nd rfl rfl (by decide) rfl rfl (pa_cons (pe_kf G_Marks_init hr (pa_cons (pv 1) (pa_cons (pv 2) pa_nil))) (pa_cons (pe_lst pa_nil) pa_nil)) (by rfl))
      (pss_cons (ps_for PassesOwn.never rfl (pi_enum (by rfl) T.z_enumerate (pa_cons (pv 0) pa_nil)) (pg_tup rfl (pgs_cons (pg_name (i := 5) sc_together.nd rfl (Or.inl rfl)) (pgs_cons (pg_name (i := 6) sc_together.nd rfl (Or.inl rfl)) pgs_nil)))
      (pss_cons (ps_set (i := 7) sc_together.nd rfl (Or.inr rfl) (pe_gf G_stands hr (pa_cons (pv 6) (pa_cons (pv 3) pa_nil))))
      (pss_cons (ps_if (pt_val (pe_callB (cr_anyN K) (by rfl) T.z_any (by decide +kernel) (pa_cons (pe_lc (own := [("other", 8)]) (g := gName 8) rfl sc_together.nd (pi_listN K (pv 4)) (blkOk_by (own := [("other", 8)]) (N := ["edits", "text", "kind", "marks", "places", "index", "item", "edit", "other"]) (sc := defScope s_together) (by decide +kernel)) (fun _ _ _ _ _ => pg_name (i := 8) sc_together.nd rfl (by first | exact Or.inl rfl | exact Or.inr rfl)) (fun _ _ _ _ _ => pts_nil) (fun _ _ _ _ _ => pe_never)) pa_nil))) (pss_one ps_never) pss_nil)
      (pss_one (ps_expr (pe_bm PySem.F.plainAttrs_list PySem.F.slot_list_append PySem.F.type_list_append mt_append (pv 4) (pa_cons (pv 7) pa_nil)))))))
      (pss_one (ps_ret (pe_gf G_delta_of hr (pa_cons (pe_gf G_rows_of hr (pa_cons (pv 4) (pa_cons (pe_callB (call_lenOwn G_Text_len hr) (by rfl) T.z_len (by decide +kernel) (pa_cons (pv 1) pa_nil)) pa_nil))) pa_nil))))))), ?_⟩
    refine seq_join (fun σ H1 => σ = [some (.ref el), some (.ref x), some (.str k.s), none, none, none, none, none, none] ∧ Same H H1) (fun N hN => ⟨_, rfl, _, rfl, _, rfl, el, x, _, t, k, rfl, hel, by simp, hx, fun H1 s1 => hN _ _ ⟨rfl, s1⟩⟩) ?_
    rintro σ H1 ⟨rfl, s1⟩
    refine seq_join (fun σ H2 => ∃ m pl, σ = [some (.ref el), some (.ref x), some (.str k.s), some (.ref m), some (.ref pl), none, none, none, none] ∧ Same H H2 ∧ H pl = none ∧ H2 pl = some (.lst []) ∧ MarksAt c (Msk H2 [pl]) m k t) (fun N hN => ?_) ?_
    · refine ⟨_, rfl, _, rfl, mk_marks (k := k) (hx.mono s1) (by omega) fun m H3 s3 hm => ⟨rfl, ?_⟩⟩
      exact ⟨lk 0 (by decide), fun pl hpl => ⟨_, _, rfl, hN _ _ ⟨m, pl, rfl, (s1.trans s3).trans (same_upd hpl), (s1.trans s3).free hpl, upd_same, (hm.mono fr_same).mono (same_of_msk (by simpa using hpl) (same_upd hpl))⟩⟩⟩
    rintro σ H2 ⟨m, pl, rfl, s2, npl, hpl, hm⟩
    have sH : Same H (Msk H2 [pl]) := same_of_msk (by simpa using npl) s2
    have hn0 : (Msk H2 [pl]) pl = none := msk_in (by simp)
    have sM : Same (Msk H2 [pl]) H2 := msk_same
    generalize Msk H2 [pl] = HB at *
    refine seq_join (fun σ H3 => ∃ v5 v6 v7 v8 p l2, σ = [some (.ref el), some (.ref x), some (.str k.s), some (.ref m), some (.ref pl), v5, v6, v7, v8] ∧ Same HB H3 ∧ H3 pl = some (.lst [.ref p]) ∧ H3 p = some (.tup [.int b, .int l, .ref l2]) ∧ LAt H3 l2 cs) (fun N hN => ?_) ?_
    · refine ⟨_, rfl, el, _, rfl, SqL.of (s2 _ _ hel), for_it (walk_enum (K := K) (a := el) (xs := [.ref e])) (fun i σ H3 => ∃ v5 v6 v7 v8, σ = [some (.ref el), some (.ref x), some (.str k.s), some (.ref m), some (.ref pl), v5, v6, v7, v8] ∧ Same HB H3 ∧ if i = 0 then H3 pl = some (.lst []) else ∃ p l2, H3 pl = some (.lst [.ref p]) ∧ H3 p = some (.tup [.int b, .int l, .ref l2]) ∧ LAt H3 l2 cs) ⟨none, none, none, none, rfl, sM, hpl⟩ ?_ ?_ ?_⟩
      · rintro i σ H3 - ⟨v5, v6, v7, v8, rfl, s3, _⟩
        exact SqL.of (s3 _ _ (sH _ _ hel))
      · rintro i x' σ H3 H4 hi ⟨v5, v6, v7, v8, rfl, s3, hp3⟩ ⟨T0, y1, y2, rfl, hT, rfl, e1, e2⟩
        have hi0 : i = 0 := by simp at hi; exact hi
        subst hi0
        cases e1
        obtain rfl : V.ref e = y2 := by simpa using e2
        rw [if_pos rfl] at hp3
        have s4 := s3.trans (same_upd (o := .tup [.int (0 : Nat), .ref e]) hT)
        have hp4 := (same_upd (o := .tup [.int (0 : Nat), .ref e]) hT) _ _ hp3
        have hT4 : upd H3 T0 (.tup [.int (0 : Nat), .ref e]) T0 = some (.tup [.int (0 : Nat), .ref e]) := upd_same
        generalize upd H3 T0 (.tup [.int (0 : Nat), .ref e]) = H4 at *
        refine ⟨T0, _, rfl, SqT.of hT4, rfl, _, _, rfl, _, _, rfl, rfl, ?_⟩
        refine seq_join (fun σ H5 => ∃ p l2, σ = [some (.ref el), some (.ref x), some (.str k.s), some (.ref m), some (.ref pl), some (.int (0 : Nat)), some (.ref e), some (.ref p), v8] ∧ Same H4 H5 ∧ H5 p = some (.tup [.int b, .int l, .ref l2]) ∧ LAt (Fr H4 H5) l2 cs) (fun N2 hN2 => ?_) ?_
        · exact ⟨_, rfl, _, rfl, e, m, cl, t, k, b, l, cs, rfl, s4 _ _ (sH _ _ he), hm.mono s4, hbl, hlt, ht, s4 _ _ (sH _ _ hcl), hcs, hcc, fun H5 p l2 s5 hp hl2 => hN2 _ _ ⟨p, l2, rfl, s5, hp, hl2⟩⟩
        rintro σ H5 ⟨p, l2, rfl, s5, hp, hl2⟩
        have hp5 := s5 _ _ hp4
        refine seq_join (fun σ H6 => σ = [some (.ref el), some (.ref x), some (.str k.s), some (.ref m), some (.ref pl), some (.int (0 : Nat)), some (.ref e), some (.ref p), v8] ∧ Same H5 H6) (fun N2 hN2 => ?_) ?_
        · refine ⟨_, rfl, pl, rfl, ⟨_, SqL.of hp5⟩, fun L hL => ?_⟩
          refine lc_list (K := K) (a := pl) (xs := []) (g := gName 8) (tt := tYes) (te := fun _ _ _ => False) (vs := [8]) (fun i H6 => Same H5 H6 ∧ H6 L = some (.lst [])) ⟨same_upd hL, upd_same⟩ (fun i H6 _ z => SqL.of (z.1 _ _ hp5)) (fun i y H6 hy _ => by simp at hy) ?_
          rintro H6 ⟨s6, h6⟩
          exact ⟨L, [], rfl, SqL.of h6, false, rfl, iteF (hN2 _ _ ⟨rfl, s6⟩)⟩
        rintro σ H6 ⟨rfl, s6⟩
        have hp6 := s6 _ _ hp5
        refine ⟨_, rfl, .inl ⟨rfl, _, SqL.of hp6⟩, _, rfl, pl, [], _, rfl, rfl, hp6, szlt _ (by simp), _, _, _, _, rfl, same_mut ((s4.trans s5).trans s6) hn0, ?_⟩
        rw [if_neg (by omega)]
        have npp : p ≠ pl := fun z => by rw [z, hp5] at hp; cases hp
        have nlp : l2 ≠ pl := fun z => by
          have := fr_new hl2
          rw [z, hp4] at this
          cases this
        refine ⟨p, l2, upd_same, ?_, ?_⟩
        · rw [upd_ne npp]
          exact s6 _ _ hp
        · show upd _ _ _ l2 = _
          rw [upd_ne nlp]
          exact s6 _ _ (fr_same _ _ hl2)
      · rintro σ H3 ⟨v5, v6, v7, v8, rfl, s3, hp3⟩
        rw [if_neg (by simp)] at hp3
        obtain ⟨p, l2, h1, h2, h3⟩ := hp3
        exact hN _ _ ⟨v5, v6, v7, v8, p, l2, rfl, s3, h1, h2, h3⟩
    rintro σ H3 ⟨v5, v6, v7, v8, p, l2, rfl, s3, h1, h2, h3⟩
    have hx3 := hx.mono (sH.trans s3)
    refine ⟨_, rfl, _, rfl, x, tx, _, rfl, s3 _ _ (sH _ _ hxx), x, t, rfl, hx3, t.length, rfl, ⟨by omega, by omega⟩, ?_⟩
    refine ⟨pl, p, l2, b, l, t.length, cs, rfl, h1, h2, h3, hbl, hlt, by omega, hcs, fun H4 a s4 ha => ⟨a, _, rfl, ha, ?_, ?_, fun H' pd s5 hd => q H' pd ((sH.trans s3).trans (s4.trans s5)) (hd.mono (fr_wide2 ((sH.trans s3).trans s4)))⟩⟩
    · have := ed_before b l t.length cs (t.length + 1)
      show before (edTo b l t.length cs (t.length + 1)) ≤ _
      omega
    · have := ed_rputs b l t.length cs (t.length + 1)
      show (rputs (edTo b l t.length cs (t.length + 1))).length ≤ _
      rw [this]
      split
      · omega
      · exact Nat.zero_le _
end
end Tc
/-! # The plain law, part 5: a program's state and its steps -/
namespace Tc
theorem ptr_all {D : Dl} (w : D.Wf) : ptr D (D.ds.length + 1) = aft D := by
  have wl := w.ln
  rw [ptr_eq, List.take_of_length_le (by omega), List.take_of_length_le (by omega)]
  unfold aft putsLen
  omega
theorem over_ds {D E : Dl} {f : Bool} (w : E.Wf) (h : E.ds.length = D.ds.length) : (gaps (over D E f)).ds.length = aft E := by
  rw [ds_gaps]
  show before (overTo D E f (D.ds.length + 1)) = _
  rw [over_before, ← h, ptr_all w]
theorem over_ps {D E : Dl} {f : Bool} (w : D.Wf) : (gaps (over D E f)).ps.flatten = D.ps.flatten := by
  have wl := w.ln
  rw [puts_gaps]
  show rputs (overTo D E f (D.ds.length + 1)) = _
  rw [over_rputs, List.take_of_length_le (by omega)]
structure DOk (D : Dl) : Prop where
  w : D.Wf
  l : D.ps.flatten.length ≤ 200
  c : ∀ y ∈ D.ps.flatten, ChOk y
theorem DOk.over {D E : Dl} {f : Bool} (d : DOk D) : DOk (gaps (over D E f)) := ⟨wf_gaps _, by rw [over_ps d.w]; exact d.l, by rw [over_ps d.w]; exact d.c⟩
/-- a program: the version, the server's text of that version, its own, what is sent, what waits, the way back -/
structure PS where
  ver : Nat
  base : List Int
  own : List Int
  sent : Option Dl
  wait : Option Dl
  backs : List Dl
def PS.mid (P : PS) : Nat := match P.sent with
  | none => P.base.length
  | some s => aft s
def PS.end_ (P : PS) : Nat := match P.wait with
  | none => P.mid
  | some w => aft w
def Chain : Nat → List Dl → Prop
  | _, [] => True
  | n, b :: r => b.ds.length = n ∧ b.Wf ∧ b.ps.flatten.length ≤ 200 ∧ Chain (aft b) r
structure TOk (t : List Int) : Prop where
  l : t.length ≤ 200
  c : ∀ y ∈ t, ChOk y
structure PsOk (P : PS) : Prop where
  b : TOk P.base
  o : TOk P.own
  s : ∀ s, P.sent = some s → s.ds.length = P.base.length ∧ DOk s
  w : ∀ w, P.wait = some w → w.ds.length = P.mid ∧ DOk w
  e : P.own.length = P.end_
  ch : Chain P.own.length P.backs.reverse
  bl : P.backs.length ≤ 20
def psWait (P : PS) (D : Dl) : PS := { P with wait := some (match P.wait with | none => D | some W => gaps (comp W D)), own := app D P.own }
def psChange (P : PS) (D : Dl) : PS := psWait { P with backs := P.backs ++ [gaps (inv D P.own)] } D
def psSend (P : PS) : PS := { P with sent := P.wait, wait := none }
def mvB : Dl → List Dl → List Dl
  | _, [] => []
  | f, b :: r => gaps (over b f true) :: mvB (gaps (over f b false)) r
/-- what comes from the server, past one's own deltas -/
def past (D : Dl) : Option Dl → Dl
  | none => D
  | some s => gaps (over D s true)
def beyond (D : Dl) : Option Dl → Option Dl
  | none => none
  | some s => some (gaps (over s D false))
def psTake (P : PS) (D : Dl) : PS := { P with
  base := app D P.base
  sent := beyond D P.sent
  wait := beyond (past D P.sent) P.wait
  own := app (past (past D P.sent) P.wait) P.own
  backs := (mvB (past (past D P.sent) P.wait) P.backs.reverse).reverse }
inductive Dn where
  | ack
  | chg (D : Dl)
def psAck (P : PS) (s : Dl) : PS := { P with base := app s P.base, sent := none }
def psRecv (P : PS) : Dn → PS
  | .ack => { P with base := (match P.sent with | some s => app s P.base | none => P.base), sent := none, ver := P.ver + 1 }
  | .chg D => { psTake P D with ver := P.ver + 1 }
end Tc
/-! # The walks: a program -/
namespace Tc
open PySem PySem.Spec PyProof.Rows L2
def OptD (c : Cs) (H : Hp) (v : V) : Option Dl → Prop
  | none => v = .non
  | some D => ∃ p, v = .ref p ∧ DelAt c H p D
theorem OptD.mono {c : Cs} {H H' : Hp} {v : V} {o : Option Dl} (s : Same H H') (h : OptD c H v o) : OptD c H' v o := by
  cases o with
  | none => exact h
  | some D =>
    obtain ⟨p, h1, h2⟩ := h
    exact ⟨p, h1, h2.mono s⟩
structure PRec where
  dx : Addr
  b : Addr
  o : Addr
  sv : V
  wv : V
  bl : Addr
  bs : List Addr
def prF (nm : Str) (k : Kd) (ver : Nat) (r : PRec) : List (Str × V) := [("own_name", .str nm), ("own_kind", .str k.s), ("own_version", .int (ver : Nat)), ("base_text", .ref r.b), ("own_text", .ref r.o), ("sent", r.sv), ("waiting", r.wv), ("backs", .ref r.bl)]
/-- a program: the cells of M change, all else stands -/
structure PrAt (c : Cs) (H : Hp) (M : List Addr) (a : Addr) (nm : Str) (k : Kd) (P : PS) (r : PRec) : Prop where
  aM : a ∈ M
  blM : r.bl ∈ M
  live : ∀ m ∈ M, H m ≠ none
  ins : H a = some (.ins c.pr r.dx (prF nm k P.ver r))
  base : TextAt c (Msk H M) r.b P.base
  own : TextAt c (Msk H M) r.o P.own
  sent : OptD c (Msk H M) r.sv P.sent
  wait : OptD c (Msk H M) r.wv P.wait
  lst : H r.bl = some (.lst (r.bs.map V.ref))
  backs : Paired (DelAt c (Msk H M)) r.bs P.backs
section
variable {c : Cs} {H H' H1 : Hp} {M : List Addr} {a : Addr} {nm : Str} {k : Kd} {P P' : PS} {r r' : PRec}
theorem PrAt.imm (h : PrAt c H M a nm k P r) : Same (Msk H M) H := msk_same
theorem PrAt.grow (h : PrAt c H M a nm k P r) (s : Same H H1) : PrAt c H1 M a nm k P r :=
  ⟨h.aM, h.blM, fun m hm => dom_same s m (h.live m hm), s _ _ h.ins, h.base.mono (msk_mono s), h.own.mono (msk_mono s), h.sent.mono (msk_mono s), h.wait.mono (msk_mono s), s _ _ h.lst, pr_imp (fun _ _ z => z.mono (msk_mono s)) h.backs⟩
theorem PrAt.ne (h : PrAt c H M a nm k P r) : r.bl ≠ a := fun z => by
  have h1 := h.lst
  rw [z, h.ins] at h1
  cases h1
/-- its record is written anew, the way back as it was -/
theorem PrAt.set (h : PrAt c H M a nm k P r) (e1 : r'.bl = r.bl) (e2 : r'.bs = r.bs) (e3 : r'.dx = r.dx) (eb : P'.backs = P.backs) (hb : TextAt c (Msk H M) r'.b P'.base) (ho : TextAt c (Msk H M) r'.o P'.own) (hs : OptD c (Msk H M) r'.sv P'.sent) (hw : OptD c (Msk H M) r'.wv P'.wait) :
    PrAt c (upd H a (.ins c.pr r.dx (prF nm k P'.ver r'))) M a nm k P' r' := by
  have em : Msk (upd H a (.ins c.pr r.dx (prF nm k P'.ver r'))) M = Msk H M := msk_mut h.aM
  refine ⟨h.aM, by rw [e1]; exact h.blM, fun m hm => dom_upd m (h.live m hm), by rw [upd_same, e3], by rw [em]; exact hb, by rw [em]; exact ho, by rw [em]; exact hs, by rw [em]; exact hw, ?_, ?_⟩
  · rw [e1, e2, upd_ne h.ne]
    exact h.lst
  · rw [em, e2, eb]
    exact h.backs
/-- new data do not change -/
theorem live_fr (live : ∀ m ∈ M, H m ≠ none) : Same (Fr H H1) (Msk H1 M) := fr_msk live
end
section
variable {P : Program} {w : World} {K : PySem.W.Frag} {mg : Str → Option Value} {base : Heap} {c : Cs}
/- Program.version: 0 self -/
theorem sc_Program_version : FnScope ["self"] ["self"] (defScope s_Program_version) := ⟨rfl, rfl, rfl, by decide +kernel, rfl, by decide +kernel, by decide +kernel⟩
theorem bi_Program_version : BindsB "version" "Program.version" s_Program_version ["self"] := fun _ _ _ _ _ _ us hl => match us, hl with | [_], _ => rfl
def spPrVersion (c : Cs) : Sp := fun vs H Q _ => ∃ a M nm k P r, vs = [.ref a] ∧ PrAt c H M a nm k P r ∧ Q (.int (P.ver : Nat)) H
theorem ok_Program_version (T : Txt K mg c) : PF P w K mg base 1 c.pr "version" (spPrVersion c) := by
  refine T.d_Program_version.pf sc_Program_version bi_Program_version (fun vs H Q E h => ?_) (fun f cdv A outer s H vs Q E hr h => ?_)
  · obtain ⟨a, M, nm, k, PP, r, rfl, _⟩ := h
    rfl
  · obtain ⟨a, M, nm, k, PP, r, rfl, hp, q⟩ := h
    refine ⟨_, (pss_one (ps_ret (pe_fld (pv 0) rfl))), ?_⟩
    exact ⟨_, rfl, a, c.pr, r.dx, _, _, rfl, hp.ins, T.cl_pr, T.n_pr_own_version, rfl, q⟩
/- Program.base: 0 self -/
theorem sc_Program_base : FnScope ["self"] ["self"] (defScope s_Program_base) := ⟨rfl, rfl, rfl, by decide +kernel, rfl, by decide +kernel, by decide +kernel⟩
theorem bi_Program_base : BindsB "base" "Program.base" s_Program_base ["self"] := fun _ _ _ _ _ _ us hl => match us, hl with | [_], _ => rfl
def spPrBase (c : Cs) : Sp := fun vs H Q _ => ∃ a M nm k P r, vs = [.ref a] ∧ PrAt c H M a nm k P r ∧ Q (.ref r.b) H
theorem ok_Program_base (T : Txt K mg c) : MF P w K mg base 1 c.pr "base" ["self"] [] (spPrBase c) := by
  refine T.d_Program_base.mf sc_Program_base bi_Program_base (fun vs H Q E h => ?_) (fun f cdv A outer s H vs Q E hr h => ?_)
  · obtain ⟨a, M, nm, k, PP, r, rfl, _⟩ := h
    rfl
  · obtain ⟨a, M, nm, k, PP, r, rfl, hp, q⟩ := h
    refine ⟨_, (pss_one (ps_ret (pe_fld (pv 0) rfl))), ?_⟩
    exact ⟨_, rfl, a, c.pr, r.dx, _, _, rfl, hp.ins, T.cl_pr, T.n_pr_base_text, rfl, q⟩
/- Program.text: 0 self -/
theorem sc_Program_text : FnScope ["self"] ["self"] (defScope s_Program_text) := ⟨rfl, rfl, rfl, by decide +kernel, rfl, by decide +kernel, by decide +kernel⟩
theorem bi_Program_text : BindsB "text" "Program.text" s_Program_text ["self"] := fun _ _ _ _ _ _ us hl => match us, hl with | [_], _ => rfl
def spPrText (c : Cs) : Sp := fun vs H Q _ => ∃ a M nm k P r, vs = [.ref a] ∧ PrAt c H M a nm k P r ∧ Q (.ref r.o) H
theorem ok_Program_text (T : Txt K mg c) : MF P w K mg base 1 c.pr "text" ["self"] [] (spPrText c) := by
  refine T.d_Program_text.mf sc_Program_text bi_Program_text (fun vs H Q E h => ?_) (fun f cdv A outer s H vs Q E hr h => ?_)
  · obtain ⟨a, M, nm, k, PP, r, rfl, _⟩ := h
    rfl
  · obtain ⟨a, M, nm, k, PP, r, rfl, hp, q⟩ := h
    refine ⟨_, (pss_one (ps_ret (pe_fld (pv 0) rfl))), ?_⟩
    exact ⟨_, rfl, a, c.pr, r.dx, _, _, rfl, hp.ins, T.cl_pr, T.n_pr_own_text, rfl, q⟩
/- Program.wait: 0 self, 1 delta -/
theorem sc_Program_wait : FnScope ["self", "delta"] ["self", "delta"] (defScope s_Program_wait) := ⟨rfl, rfl, rfl, by decide +kernel, rfl, by decide +kernel, by decide +kernel⟩
theorem bi_Program_wait : BindsB "wait" "Program.wait" s_Program_wait ["self", "delta"] := fun _ _ _ _ _ _ us hl => match us, hl with | [_, _], _ => rfl
structure WtOk (P : PS) (D : Dl) : Prop where
  l : P.own.length = D.ds.length
  n : D.ds.length ≤ 5000
  d : D.ps.flatten.length ≤ 5000
  dc : ∀ y ∈ D.ps.flatten, ChOk y
  oc : ∀ y ∈ P.own, ChOk y
  w : ∀ W, P.wait = some W → W.ds.length ≤ 5000 ∧ W.ps.flatten.length ≤ 5000 ∧ D.ds.length = aft W
def spPrWait (c : Cs) : Sp := fun vs H Q _ => ∃ a p M nm k P r D, vs = [.ref a, .ref p] ∧ PrAt c H M a nm k P r ∧ DelAt c (Msk H M) p D ∧ WtOk P D ∧
  ∀ H' r', Same (Msk H [a]) H' → r'.bl = r.bl → PrAt c H' M a nm k (psWait P D) r' → Q .non H'
theorem ok_Program_wait (T : Txt K mg c) (G_Delta_add : SF P w K mg base 6 c.de "__add__" (spDelAdd c)) (G_Delta_call : CF P w K mg base 7 c.de (spDelCall c)) : MF P w K mg base 8 c.pr "wait" ["self", "delta"] [] (spPrWait c) := by
  refine T.d_Program_wait.mf sc_Program_wait bi_Program_wait (fun vs H Q E h => ?_) (fun f cdv A outer s H vs Q E hr h => ?_)
  · obtain ⟨a, p, M, nm, k, PP, r, D, rfl, _⟩ := h
    rfl
  · obtain ⟨a, p, M, nm, k, PP, r, D, rfl, hp, hD, hok, q⟩ := h
    refine ⟨_, (pss_cons (ps_fld (pv 0) (pe_ifExp (pt_cmpR op_isN (pe_fld (pv 0) rfl) pe_non (nomark _)) (pv 1) (pe_op (op_addOwn G_Delta_add hr) (pe_fld (pv 0) rfl) (pv 1))) rfl)
      (pss_one (ps_fld (pv 0) (pe_cf G_Delta_call hr (pv 1) (pa_cons (pe_fld (pv 0) rfl) pa_nil)) rfl))), ?_⟩
    refine seq_join (fun σ H1 => ∃ r1, σ = [some (.ref a), some (.ref p)] ∧ Same (Msk H [a]) H1 ∧ r1.bl = r.bl ∧ PrAt c H1 M a nm k { PP with wait := (psWait PP D).wait } r1 ∧ DelAt c (Msk H1 M) p D) (fun N hN => ?_) ?_
    · refine ⟨_, rfl, a, c.pr, r.dx, _, _, rfl, hp.ins, T.cl_pr, T.n_pr_waiting, rfl, rfl, _, rfl, ?_⟩
      have fin : ∀ H1 v, Same H H1 → OptD c (Msk H1 M) v (psWait PP D).wait → ∃ r1 : PRec, Same (Msk H [a]) (upd H1 a (.ins c.pr r.dx (putF "waiting" v (prF nm k PP.ver r)))) ∧ r1.bl = r.bl ∧ PrAt c (upd H1 a (.ins c.pr r.dx (putF "waiting" v (prF nm k PP.ver r)))) M a nm k { PP with wait := (psWait PP D).wait } r1 ∧ DelAt c (Msk (upd H1 a (.ins c.pr r.dx (putF "waiting" v (prF nm k PP.ver r)))) M) p D := fun H1 v s1 hv => by
        have h1 := hp.grow s1
        refine ⟨{ r with wv := v }, ?_, rfl, ?_, ?_⟩
        · have e := msk_mono (M := [a]) s1
          intro b u eb
          have nb : b ≠ a := fun z => by rw [z, msk_in (by simp)] at eb; cases eb
          rw [upd_ne nb]
          exact msk_same _ _ (e _ _ eb)
        · exact h1.set (r' := { r with wv := v }) (P' := { PP with wait := (psWait PP D).wait }) rfl rfl rfl rfl h1.base h1.own h1.sent hv
        · rw [msk_mut hp.aM]
          exact hD.mono (msk_mono s1)
      have hw := hp.wait
      cases hW : PP.wait with
      | none =>
        rw [hW] at hw
        have hw2 : r.wv = .non := hw
        rw [decide_eq_true hw2]
        refine iteT ⟨_, rfl, _, rfl, a, c.pr, r.dx, _, rfl, hp.ins, T.cl_pr, T.n_pr_waiting, by show 8 < 1000; decide, ?_⟩
        obtain ⟨r1, h1, h2, h3, h4⟩ := fin H (.ref p) same_refl (by
          unfold psWait
          rw [hW]
          exact ⟨p, rfl, hD⟩)
        exact hN _ _ ⟨r1, rfl, h1, h2, h3, h4⟩
      | some W =>
        rw [hW] at hw
        obtain ⟨pw, hpw, hWd⟩ := hw
        have hw2 : ¬ r.wv = .non := by rw [hpw]; intro z; cases z
        rw [decide_eq_false hw2]
        obtain ⟨w1, w2, w3⟩ := hok.w W hW
        obtain ⟨dxw, rw_, pwp, pwd, rsw, hpwi, _⟩ := id (hWd.mono hp.imm)
        obtain ⟨dxd, rd_, pdp, pdd, rsd, hpdi, _⟩ := id (hD.mono hp.imm)
        refine iteF ⟨_, rfl, a, c.pr, r.dx, _, _, rfl, hp.ins, T.cl_pr, T.n_pr_waiting, rfl, _, rfl, pw, p, dxw, _, dxd, _, hpw, rfl, hpwi, hpdi, pw, p, W, D, rfl, hWd.mono hp.imm, hD.mono hp.imm, w3, by omega, by omega, by have := hok.d; omega, fun H1 z s1 hz => ?_⟩
        refine ⟨_, rfl, a, c.pr, r.dx, _, rfl, s1 _ _ hp.ins, T.cl_pr, T.n_pr_waiting, by show 8 < 1000; decide, ?_⟩
        obtain ⟨r1, h1, h2, h3, h4⟩ := fin H1 (.ref z) s1 (by
          unfold psWait
          rw [hW]
          exact ⟨z, rfl, hz.mono (live_fr hp.live)⟩)
        exact hN _ _ ⟨r1, rfl, h1, h2, h3, h4⟩
    rintro σ H1 ⟨r1, rfl, s1, e1, hp1, hD1⟩
    have hDi := hD1.mono hp1.imm
    obtain ⟨dxd, rd_, pdp, pdd, rsd, hpdi, _⟩ := id hDi
    refine ⟨_, rfl, p, rfl, _, rfl, a, c.pr, r1.dx, _, .ref r1.o, rfl, hp1.ins, T.cl_pr, T.n_pr_own_text, rfl, .inr ⟨_, _, hpdi⟩, p, r1.o, D, PP.own, rfl, hDi, hp1.own.mono hp1.imm, hok.l, hok.oc, hok.dc, by have := hok.n; omega, by have := hok.d; omega, fun H2 z s2 hz => ?_⟩
    have hp2 := hp1.grow s2
    refine ⟨_, rfl, a, c.pr, r1.dx, _, rfl, hp2.ins, T.cl_pr, T.n_pr_own_text, by show 8 < 1000; decide, ?_⟩
    refine q _ { r1 with o := z } ?_ e1 (hp2.set (r' := { r1 with o := z }) (P' := psWait PP D) rfl rfl rfl rfl hp2.base (hz.mono (live_fr hp1.live)) hp2.sent hp2.wait)
    intro b u eb
    have nb : b ≠ a := fun z => by rw [z, msk_in (by simp)] at eb; cases eb
    rw [upd_ne nb]
    exact s2 _ _ (s1 _ _ eb)
/- Program.own_change: 0 self, 1 delta -/
theorem sc_Program_own_change : FnScope ["self", "delta"] ["self", "delta"] (defScope s_Program_own_change) := ⟨rfl, rfl, rfl, by decide +kernel, rfl, by decide +kernel, by decide +kernel⟩
theorem bi_Program_own_change : BindsB "own_change" "Program.own_change" s_Program_own_change ["self", "delta"] := fun _ _ _ _ _ _ us hl => match us, hl with | [_, _], _ => rfl
structure ChOkP (P : PS) (D : Dl) : Prop where
  l : P.own.length = D.ds.length
  n : D.ds.length ≤ 1000
  d : D.ps.flatten.length ≤ 1000
  dc : ∀ y ∈ D.ps.flatten, ChOk y
def spPrOwn (c : Cs) : Sp := fun vs H Q _ => ∃ a p M nm k P r D, vs = [.ref a, .ref p] ∧ PrAt c H M a nm k P r ∧ DelAt c (Msk H M) p D ∧ PsOk P ∧ ChOkP P D ∧
  ∀ H' r', Same (Msk H [a, r.bl]) H' → r'.bl = r.bl → PrAt c H' M a nm k (psChange P D) r' → Q .non H'
theorem ok_Program_own_change (T : Txt K mg c) (G_Delta_inverted : MF P w K mg base 6 c.de "inverted" ["self", "text"] [] (spDelInv c)) (G_Program_wait : MF P w K mg base 8 c.pr "wait" ["self", "delta"] [] (spPrWait c)) : MF P w K mg base 9 c.pr "own_change" ["self", "delta"] [] (spPrOwn c) := by
  refine T.d_Program_own_change.mf sc_Program_own_change bi_Program_own_change (fun vs H Q E h => ?_) (fun f cdv A outer s H vs Q E hr h => ?_)
  · obtain ⟨a, p, M, nm, k, PP, r, D, rfl, _⟩ := h
    rfl
  · obtain ⟨a, p, M, nm, k, PP, r, D, rfl, hp, hD, hps, hok, q⟩ := h
    refine ⟨_, (pss_cons (ps_expr (pe_bm PySem.F.plainAttrs_list PySem.F.slot_list_append PySem.F.type_list_append mt_append (pe_fld (pv 0) rfl) (pa_cons (pe_mf G_Delta_inverted T.cl_de hr (pv 1) (pa_cons (pe_fld (pv 0) rfl) pa_nil)) pa_nil)))
      (pss_one (ps_expr (pe_mf G_Program_wait T.cl_pr hr (pv 0) (pa_cons (pv 1) pa_nil))))), ?_⟩
    have hDi := hD.mono hp.imm
    obtain ⟨dxd, rd_, pdp, pdd, rsd, hpdi, _⟩ := id hDi
    have hb20 : r.bs.length ≤ 20 := by rw [pr_len hp.backs]; exact hps.bl
    refine ⟨_, rfl, a, c.pr, r.dx, _, .ref r.bl, rfl, hp.ins, T.cl_pr, T.n_pr_backs, rfl, .inl ⟨rfl, _, SqL.of hp.lst⟩, _, rfl, p, dxd, _, rfl, hpdi, rfl, _, rfl, a, c.pr, r.dx, _, .ref r.o, rfl, hp.ins, T.cl_pr, T.n_pr_own_text, rfl, p, r.o, D, PP.own, rfl, hDi, hp.own.mono hp.imm, hok.l, by have := hok.n; omega, by have := hok.d; omega, fun H1 z s1 hz => ?_⟩
    have hp1 := hp.grow s1
    refine ⟨r.bl, r.bs.map V.ref, _, rfl, rfl, hp1.lst, szlt _ (by rw [List.length_map]; omega), ?_⟩
    have hz1 := hz.mono (live_fr hp.live)
    have hp2 : PrAt c (upd H1 r.bl (.lst (r.bs.map V.ref ++ [.ref z]))) M a nm k { PP with backs := PP.backs ++ [gaps (inv D PP.own)] } { r with bs := r.bs ++ [z] } := by
      have em : Msk (upd H1 r.bl (.lst (r.bs.map V.ref ++ [.ref z]))) M = Msk H1 M := msk_mut hp.blM
      refine ⟨hp.aM, hp.blM, fun m hm => dom_upd m (hp1.live m hm), by rw [upd_ne hp.ne.symm]; exact hp1.ins, by rw [em]; exact hp1.base, by rw [em]; exact hp1.own, by rw [em]; exact hp1.sent, by rw [em]; exact hp1.wait, by rw [upd_same, List.map_append]; rfl, by rw [em]; exact pr_app hp1.backs (.cons hz1 .nil)⟩
    have hD2 : DelAt c (Msk (upd H1 r.bl (.lst (r.bs.map V.ref ++ [.ref z]))) M) p D := by
      rw [msk_mut hp.blM]
      exact hD.mono (msk_mono s1)
    refine ⟨_, rfl, a, r.dx, _, rfl, hp2.ins, rfl, _, rfl, a, p, M, nm, k, _, _, D, rfl, hp2, hD2, ⟨hok.l, by have := hok.n; omega, by have := hok.d; omega, hok.dc, hps.o.c, fun W hW => ?_⟩, fun H' r' s' e' hp' => q H' r' ?_ e' hp'⟩
    · have hW : PP.wait = some W := hW
      obtain ⟨h1, h2⟩ := hps.w W hW
      have he := hps.e
      unfold PS.end_ at he
      rw [hW] at he
      have he : PP.own.length = aft W := he
      refine ⟨?_, by have := h2.l; omega, ?_⟩
      · rw [h1]
        unfold PS.mid
        cases hs : PP.sent with
        | none => have := hps.b.l; show PP.base.length ≤ _; omega
        | some s =>
          obtain ⟨h3, h4⟩ := hps.s s hs
          have := aft_le s
          have := h4.l
          have := hps.b.l
          show aft s ≤ _
          omega
      · rw [← hok.l, he]
    · intro b u eb
      have nb1 : b ≠ a := fun z => by rw [z, msk_in (by simp)] at eb; cases eb
      have nb2 : b ≠ r.bl := fun z => by rw [z, msk_in (by simp)] at eb; cases eb
      refine s' _ _ ?_
      rw [msk_at (by simpa using nb1), upd_ne nb2]
      exact s1 _ _ (msk_same _ _ eb)
/- Program.edit: 0 self, 1 edits -/
theorem sc_Program_edit : FnScope ["self", "edits"] ["self", "edits"] (defScope s_Program_edit) := ⟨rfl, rfl, rfl, by decide +kernel, rfl, by decide +kernel, by decide +kernel⟩
theorem bi_Program_edit : BindsB "edit" "Program.edit" s_Program_edit ["self", "edits"] := fun _ _ _ _ _ _ us hl => match us, hl with | [_, _], _ => rfl
def spPrEdit (c : Cs) : Sp := fun vs H Q _ => ∃ a el e cl M nm k P r b l cs, vs = [.ref a, .ref el] ∧ PrAt c H M a nm k P r ∧ PsOk P ∧ H el = some (.lst [.ref e]) ∧ H e = some (.tup [.int (numAt (wd k) P.own b : Nat), .int (numAt (wd k) P.own l : Nat), .ref cl]) ∧ LAt H cl cs ∧ b ≤ l ∧ l ≤ P.own.length ∧ cs.length ≤ 600 ∧ (∀ y ∈ cs, ChOk y) ∧
  ∀ H' r', Same (Msk H [a, r.bl]) H' → r'.bl = r.bl → PrAt c H' M a nm k (psChange P (gaps (ed b l P.own.length cs))) r' → Q .non H'
theorem ok_Program_edit (T : Txt K mg c) (G_together : GF P w K mg base 6 "together" ["edits", "text", "kind"] (spTogether c)) (G_Program_own_change : MF P w K mg base 9 c.pr "own_change" ["self", "delta"] [] (spPrOwn c)) : MF P w K mg base 10 c.pr "edit" ["self", "edits"] [] (spPrEdit c) := by
  refine T.d_Program_edit.mf sc_Program_edit bi_Program_edit (fun vs H Q E h => ?_) (fun f cdv A outer s H vs Q E hr h => ?_)
  · obtain ⟨a, el, e, cl, M, nm, k, PP, r, b, l, cs, rfl, _⟩ := h
    rfl
  · obtain ⟨a, el, e, cl, M, nm, k, PP, r, b, l, cs, rfl, hp, hps, hel, he, hcl, hbl, hlo, hcs, hcc, q⟩ := h
    refine ⟨_, (pss_one (ps_expr (pe_mf G_Program_own_change T.cl_pr hr (pv 0) (pa_cons (pe_gf G_together hr (pa_cons (pv 1) (pa_cons (pe_fld (pv 0) rfl) (pa_cons (pe_fld (pv 0) rfl) pa_nil)))) pa_nil)))), ?_⟩
    refine ⟨_, rfl, a, r.dx, _, rfl, hp.ins, rfl, ?_⟩
    refine ⟨_, rfl, _, rfl, a, c.pr, r.dx, _, .ref r.o, rfl, hp.ins, T.cl_pr, T.n_pr_own_text, rfl, _, rfl, a, c.pr, r.dx, _, .str k.s, rfl, hp.ins, T.cl_pr, T.n_pr_own_kind, rfl,
      el, e, r.o, cl, PP.own, k, b, l, cs, rfl, hel, he, hp.own.mono hp.imm, hcl, hbl, hlo, by have := hps.o.l; omega, hcs, hcc, fun H1 p s1 hd => ?_⟩
    have hp1 := hp.grow s1
    have hds : (gaps (ed b l PP.own.length cs)).ds.length = PP.own.length := by
      rw [ds_gaps]
      show before (edTo b l _ cs (PP.own.length + 1)) = _
      rw [ed_before]
      omega
    have hpf : (gaps (ed b l PP.own.length cs)).ps.flatten = cs := by
      rw [puts_gaps]
      show rputs (edTo b l _ cs (PP.own.length + 1)) = _
      rw [ed_rputs, if_pos (by omega)]
    refine ⟨a, p, M, nm, k, PP, r, _, rfl, hp1, hd.mono (live_fr hp.live), hps, ⟨hds.symm, by rw [hds]; have := hps.o.l; omega, by rw [hpf]; omega, by rw [hpf]; exact hcc⟩, fun H' r' s' e' hp' => q H' r' ?_ e' hp'⟩
    intro x u ex
    exact s' _ _ (msk_mono s1 _ _ ex)
/- Program.send: 0 self -/
theorem sc_Program_send : FnScope ["self"] ["self"] (defScope s_Program_send) := ⟨rfl, rfl, rfl, by decide +kernel, rfl, by decide +kernel, by decide +kernel⟩
theorem bi_Program_send : BindsB "send" "Program.send" s_Program_send ["self"] := fun _ _ _ _ _ _ us hl => match us, hl with | [_], _ => rfl
def UpAt (c : Cs) (H : Hp) (nm : Str) (k : Kd) (m : Addr) (x : Nat × Dl × List Int) : Prop := ∃ rr rs, H m = some (.tup [.str nm, .int (x.1 : Nat), .ref rr]) ∧ RowsAt H rr (crows (wd k) x.2.2 0 rs) ∧ gaps rs = x.2.1 ∧ rs.length ≤ 2 * x.2.1.ds.length + 1 ∧ x.2.2.length = x.2.1.ds.length
theorem UpAt.mono {H H' : Hp} {nm : Str} {k : Kd} {m : Addr} {x : Nat × Dl × List Int} (s : Same H H') (h : UpAt c H nm k m x) : UpAt c H' nm k m x := by
  obtain ⟨rr, rs, h1, h2, h3⟩ := h
  exact ⟨rr, rs, s _ _ h1, h2.mono s, h3⟩
def spPrSend (c : Cs) : Sp := fun vs H Q _ => ∃ a M nm k P r, vs = [.ref a] ∧ PrAt c H M a nm k P r ∧ PsOk P ∧
  ((P.wait = none ∨ P.sent ≠ none) → Q .non H) ∧ ∀ W, P.wait = some W → P.sent = none → ∀ H' r' m, Same (Msk H [a]) H' → r'.bl = r.bl → PrAt c H' M a nm k (psSend P) r' → UpAt c (Msk H' M) nm k m (P.ver, W, P.base) → Q (.ref m) H'
theorem ok_Program_send (T : Txt K mg c) (G_counted : GF P w K mg base 4 "counted" ["delta", "text", "kind"] (spCounted c)) : MF P w K mg base 5 c.pr "send" ["self"] [] (spPrSend c) := by
  refine T.d_Program_send.mf sc_Program_send bi_Program_send (fun vs H Q E h => ?_) (fun f cdv A outer s H vs Q E hr h => ?_)
  · obtain ⟨a, M, nm, k, PP, r, rfl, _⟩ := h
    rfl
  · obtain ⟨a, M, nm, k, PP, r, rfl, hp, hps, q1, q2⟩ := h
    refine ⟨_, (pss_cons (ps_if (PW.pt (pw_or (pt_cmpR op_isN (pe_fld (pv 0) rfl) pe_non (nomark _)) (pw_or1 (pt_cmpR op_notN (pe_fld (pv 0) rfl) pe_non (nomark _))))) (pss_one (ps_ret pe_non)) pss_nil)
      (pss_cons (ps_asg (pe_tup (pa_cons (pe_fld (pv 0) rfl) (pa_cons pe_non pa_nil))) (pg_tup rfl (pgs_cons (pg_fld (pv 0)) (pgs_cons (pg_fld (pv 0)) pgs_nil))))
      (pss_one (ps_ret (pe_tup (pa_cons (pe_fld (pv 0) rfl) (pa_cons (pe_fld (pv 0) rfl) (pa_cons (pe_gf G_counted hr (pa_cons (pe_fld (pv 0) rfl) (pa_cons (pe_fld (pv 0) rfl) (pa_cons (pe_fld (pv 0) rfl) pa_nil)))) pa_nil)))))))), ?_⟩
    have hw := hp.wait
    have hs := hp.sent
    refine ⟨_, rfl, a, c.pr, r.dx, _, _, rfl, hp.ins, T.cl_pr, T.n_pr_waiting, rfl, rfl, _, rfl, ?_⟩
    cases hW : PP.wait with
    | none =>
      rw [hW] at hw
      rw [decide_eq_true (show r.wv = .non from hw)]
      exact iteT (iteT (q1 (.inl hW)))
    | some W =>
      rw [hW] at hw
      obtain ⟨pw, hpw, hWd⟩ := hw
      rw [decide_eq_false (show ¬ r.wv = .non by rw [hpw]; intro z; cases z)]
      refine iteF ⟨_, rfl, a, c.pr, r.dx, _, _, rfl, hp.ins, T.cl_pr, T.n_pr_sent, rfl, rfl, _, rfl, ?_⟩
      cases hS : PP.sent with
      | some s =>
        rw [hS] at hs
        obtain ⟨ps, hps2, hSd⟩ := hs
        rw [decide_eq_false (show ¬ r.sv = .non by rw [hps2]; intro z; cases z)]
        exact iteT (q1 (.inr (by rw [hS]; intro z; cases z)))
      | none =>
        rw [hS] at hs
        rw [decide_eq_true (show r.sv = .non from hs)]
        refine iteF ?_
        refine ⟨_, rfl, a, c.pr, r.dx, _, _, rfl, hp.ins, T.cl_pr, T.n_pr_waiting, rfl, lk 2 (by decide), fun tp htp => ⟨tp, _, rfl, SqT.of upd_same, rfl, _, _, rfl, ?_⟩⟩
        have hp1 := hp.grow (same_upd (o := .tup [r.wv, .non]) htp)
        refine ⟨_, rfl, a, c.pr, r.dx, _, rfl, hp1.ins, T.cl_pr, T.n_pr_sent, by show 8 < 1000; decide, ?_⟩
        refine ⟨_, _, rfl, _, rfl, a, c.pr, r.dx, _, rfl, upd_same, T.cl_pr, T.n_pr_waiting, by show 8 < 1000; decide, rfl, ?_⟩
        rw [upd_upd]
        have hp2 := hp1.set (r' := { r with sv := r.wv, wv := .non }) (P' := psSend PP) rfl rfl rfl rfl hp1.base hp1.own hp1.wait rfl
        have sA : Same (Msk H [a]) (upd (upd H tp (.tup [r.wv, .non])) a (.ins c.pr r.dx (prF nm k PP.ver { r with sv := r.wv, wv := .non }))) := fun b u eb => by
          have nb : b ≠ a := fun z => by rw [z, msk_in (by simp)] at eb; cases eb
          rw [upd_ne nb]
          exact (same_upd htp) _ _ (msk_same _ _ eb)
        have hW2 : DelAt c (Msk (upd (upd H tp (.tup [r.wv, .non])) a (.ins c.pr r.dx (prF nm k PP.ver { r with sv := r.wv, wv := .non }))) M) pw W := by
          have h := hp2.sent
          have e : (psSend PP).sent = some W := hW
          rw [e] at h
          obtain ⟨z, h1, h2⟩ := h
          have : z = pw := by
            have h1 : r.wv = .ref z := h1
            rw [hpw] at h1
            exact (V.ref.inj h1).symm
          rw [← this]
          exact h2
        obtain ⟨hwl, hwd⟩ := hps.w W hW
        have hmid : PP.mid = PP.base.length := by unfold PS.mid; rw [hS]
        rw [hmid] at hwl
        have hbl := hps.b.l
        refine ⟨_, rfl, a, c.pr, r.dx, _, .str nm, rfl, upd_same, T.cl_pr, T.n_pr_own_name, rfl, ?_⟩
        refine ⟨_, rfl, a, c.pr, r.dx, _, .int (PP.ver : Nat), rfl, upd_same, T.cl_pr, T.n_pr_own_version, rfl, ?_⟩
        refine ⟨_, rfl, a, c.pr, r.dx, _, r.wv, rfl, upd_same, T.cl_pr, T.n_pr_sent, rfl, ?_⟩
        refine ⟨_, rfl, a, c.pr, r.dx, _, .ref r.b, rfl, upd_same, T.cl_pr, T.n_pr_base_text, rfl, ?_⟩
        refine ⟨_, rfl, a, c.pr, r.dx, _, .str k.s, rfl, upd_same, T.cl_pr, T.n_pr_own_kind, rfl, ?_⟩
        refine ⟨pw, r.b, W, PP.base, k, by rw [hpw]; rfl, hW2.mono hp2.imm, hp2.base.mono hp2.imm, hwl.symm, by omega, fun H3 rr rs s3 hrr hgr hlr => ⟨lk 3 (by decide), fun mm hmm => ?_⟩⟩
        have s4 := s3.trans (same_upd (o := .tup [.str nm, .int (PP.ver : Nat), .ref rr]) hmm)
        have hp4 := hp2.grow s4
        refine q2 W hW hS _ { r with sv := r.wv, wv := .non } mm (sA.trans s4) rfl hp4 ⟨rr, rs, ?_, (RowsAt.mono (live_fr hp2.live) hrr).mono (msk_mono (same_upd hmm)), hgr, hlr, hwl.symm⟩
        show Msk _ M mm = _
        rw [msk_at, upd_same]
        intro hm
        exact dom_same s3 mm (hp2.live mm hm) hmm
end
end Tc
/-! # The walks: a program takes a delta -/
namespace Tc
open PySem PySem.Spec PyProof.Rows L2
theorem same_a {H H1 : Hp} {a : Addr} {o : HO} (s : Same (Msk H [a]) H1) : Same (Msk H [a]) (upd H1 a o) := fun b u eb => by
  have nb : b ≠ a := fun z => by rw [z, msk_in (by simp)] at eb; cases eb
  rw [upd_ne nb]
  exact s _ _ eb
theorem pr_rev {α β : Type} {F : α → β → Prop} : ∀ {l : List α} {m : List β}, Paired F l m → Paired F l.reverse m.reverse
  | _, _, .nil => .nil
  | _, _, .cons r t => by
    rw [List.reverse_cons, List.reverse_cons]
    exact pr_app (pr_rev t) (.cons r .nil)
section
variable {P : Program} {w : World} {K : PySem.W.Frag} {mg : Str → Option Value} {base : Heap} {c : Cs}
/- Program.take: 0 self, 1 delta, 2 for_own, 3 moved, 4 back -/
theorem sc_Program_take : FnScope ["self", "delta", "for_own", "moved", "back"] ["self", "delta"] (defScope s_Program_take) := ⟨rfl, rfl, rfl, by decide +kernel, rfl, by decide +kernel, by decide +kernel⟩
theorem bi_Program_take : BindsB "take" "Program.take" s_Program_take ["self", "delta"] := fun _ _ _ _ _ _ us hl => match us, hl with | [_, _], _ => rfl
def spPrTake (c : Cs) : Sp := fun vs H Q _ => ∃ a p M nm k P r D, vs = [.ref a, .ref p] ∧ PrAt c H M a nm k P r ∧ DelAt c (Msk H M) p D ∧ PsOk P ∧ D.ds.length = P.base.length ∧ DOk D ∧
  ∀ H' r', Same (Msk H [a]) H' → H r'.bl = none → PrAt c H' (r'.bl :: M) a nm k (psTake P D) r' → Q .non H'
theorem ok_Program_take (T : Txt K mg c) (G_Delta_call : CF P w K mg base 7 c.de (spDelCall c)) (G_Delta_over : MK P w K mg base 6 c.de "over" ["self", "other", "first"] 2 ["first"] (fun vs zs => vs ++ zs) (spDelOver c)) : MF P w K mg base 8 c.pr "take" ["self", "delta"] [] (spPrTake c) := by
  refine T.d_Program_take.mf sc_Program_take bi_Program_take (fun vs H Q E h => ?_) (fun f cdv A outer s H vs Q E hr h => ?_)
  · obtain ⟨a, p, M, nm, k, PP, r, D, rfl, _⟩ := h
    rfl
  · obtain ⟨a, p, M, nm, k, PP, r, D, rfl, hp, hD, hps, hDl, hDo, q⟩ := h
    refine ⟨_, (pss_cons (ps_fld (pv 0) (pe_cf G_Delta_call hr (pv 1) (pa_cons (pe_fld (pv 0) rfl) pa_nil)) rfl)
      (pss_cons (ps_set (i := 2) sc_Program_take.nd rfl (Or.inl rfl) (pv 1))
      (pss_cons (ps_if (pt_cmpR op_notN (pe_fld (pv 0) rfl) pe_non (nomark _)) (pss_one (ps_asg (pe_tup (pa_cons (pe_mk G_Delta_over T.cl_de hr (pv 2) (pa_cons (pe_fld (pv 0) rfl) pa_nil) (pk_cons pe_bl pk_nil)) (pa_cons (pe_mk G_Delta_over T.cl_de hr (pe_fld (pv 0) rfl) (pa_cons (pv 2) pa_nil) (pk_cons pe_bl pk_nil)) pa_nil))) (pg_tup rfl (pgs_cons (pg_name (i := 2) sc_Program_take.nd rfl (Or.inl rfl)) (pgs_cons (pg_fld (pv 0)) pgs_nil))))) pss_nil)
      (pss_cons (ps_if (pt_cmpR op_notN (pe_fld (pv 0) rfl) pe_non (nomark _)) (pss_one (ps_asg (pe_tup (pa_cons (pe_mk G_Delta_over T.cl_de hr (pv 2) (pa_cons (pe_fld (pv 0) rfl) pa_nil) (pk_cons pe_bl pk_nil)) (pa_cons (pe_mk G_Delta_over T.cl_de hr (pe_fld (pv 0) rfl) (pa_cons (pv 2) pa_nil) (pk_cons pe_bl pk_nil)) pa_nil))) (pg_tup rfl (pgs_cons (pg_name (i := 2) sc_Program_take.nd rfl (Or.inl rfl)) (pgs_cons (pg_fld (pv 0)) pgs_nil))))) pss_nil)
      (pss_cons (ps_fld (pv 0) (pe_cf G_Delta_call hr (pv 2) (pa_cons (pe_fld (pv 0) rfl) pa_nil)) rfl)
      (pss_cons (ps_set (i := 3) sc_Program_take.nd rfl (Or.inl rfl) (pe_lst pa_nil))
      (pss_cons (ps_for PassesOwn.never rfl (pi_listN K (pe_revL (pe_fld (pv 0) rfl))) (pg_name (i := 4) sc_Program_take.nd rfl (Or.inl rfl))
      (pss_cons (ps_expr (pe_bm PySem.F.plainAttrs_list PySem.F.slot_list_append PySem.F.type_list_append mt_append (pv 3) (pa_cons (pe_mk G_Delta_over T.cl_de hr (pv 4) (pa_cons (pv 2) pa_nil) (pk_cons pe_bl pk_nil)) pa_nil)))
      (pss_one (ps_set (i := 2) sc_Program_take.nd rfl (Or.inl rfl) (pe_mk G_Delta_over T.cl_de hr (pv 2) (pa_cons (pv 4) pa_nil) (pk_cons pe_bl pk_nil))))))
      (pss_one (ps_fld (pv 0) (pe_revL (pv 3)) rfl))))))))), ?_⟩
    have hbl := hps.b.l
    have hdl := hDo.l
    refine seq_join (fun σ H1 => ∃ r1, σ = [some (.ref a), some (.ref p), none, none, none] ∧ Same (Msk H [a]) H1 ∧ r1.bl = r.bl ∧ r1.bs = r.bs ∧ PrAt c H1 M a nm k { PP with base := app D PP.base } r1 ∧ DelAt c (Msk H1 M) p D) (fun N hN => ?_) ?_
    · have hDi := hD.mono hp.imm
      obtain ⟨dxd, rd_, pdp, pdd, rsd, hpdi, _⟩ := id hDi
      refine ⟨_, rfl, p, rfl, _, rfl, a, c.pr, r.dx, _, .ref r.b, rfl, hp.ins, T.cl_pr, T.n_pr_base_text, rfl, .inr ⟨_, _, hpdi⟩, p, r.b, D, PP.base, rfl, hDi, hp.base.mono hp.imm, hDl.symm, hps.b.c, hDo.c, by omega, by omega, fun H2 z s2 hz => ?_⟩
      have hp2 := hp.grow s2
      refine ⟨_, rfl, a, c.pr, r.dx, _, rfl, hp2.ins, T.cl_pr, T.n_pr_base_text, by show 8 < 1000; decide, hN _ _ ⟨{ r with b := z }, rfl, same_a (msk_same.trans s2), rfl, rfl, hp2.set (r' := { r with b := z }) (P' := { PP with base := app D PP.base }) rfl rfl rfl rfl (hz.mono (live_fr hp.live)) hp2.own hp2.sent hp2.wait, ?_⟩⟩
      rw [msk_mut hp.aM]
      exact hD.mono (msk_mono s2)
    rintro σ H1 ⟨r1, rfl, s1, e1, e1', hp1, hD1⟩
    refine seq_join (fun σ H2 => σ = [some (.ref a), some (.ref p), some (.ref p), none, none] ∧ H2 = H1) (fun N hN => ⟨_, rfl, hN _ _ ⟨rfl, rfl⟩⟩) ?_
    rintro σ H2 ⟨rfl, rfl⟩
    -- past what is sent
    refine seq_join (fun σ H3 => ∃ r3 f, σ = [some (.ref a), some (.ref p), some (.ref f), none, none] ∧ Same (Msk H [a]) H3 ∧ r3.bl = r.bl ∧ r3.bs = r.bs ∧ PrAt c H3 M a nm k { PP with base := app D PP.base, sent := beyond D PP.sent } r3 ∧ DelAt c (Msk H3 M) f (past (D) PP.sent)) (fun N hN => ?_) ?_
    · have hs := hp1.sent
      refine ⟨_, rfl, a, c.pr, r1.dx, _, _, rfl, hp1.ins, T.cl_pr, T.n_pr_sent, rfl, rfl, _, rfl, ?_⟩
      cases hS : PP.sent with
      | none =>
        have hs2 : OptD c (Msk H2 M) r1.sv none := by rw [← hS]; exact hs
        have eB : beyond (D) PP.sent = PP.sent := by rw [hS]; rfl
        have eP : past (D) PP.sent = (D) := by rw [hS]; rfl
        rw [decide_eq_true (show r1.sv = .non from hs2)]
        exact iteF (hN _ _ ⟨r1, p, rfl, s1, e1, e1', by rw [eB]; exact hp1, by rw [eP]; exact hD1⟩)
      | some S =>
        have hs2 : OptD c (Msk H2 M) r1.sv (some S) := by rw [← hS]; exact hs
        have eB : beyond (D) PP.sent = some (gaps (over S (D) false)) := by rw [hS]; rfl
        have eP : past (D) PP.sent = gaps (over (D) S true) := by rw [hS]; rfl
        obtain ⟨ps, hpv, hSd⟩ := hs2
        obtain ⟨hsl, hso⟩ := hps.s S hS
        have hsw := hso.l
        have hSL : S.ds.length = D.ds.length := by omega
        have hFL : D.ds.length ≤ 50000 := by omega
        have hFP : D.ps.flatten.length ≤ 50000 := by omega
        rw [decide_eq_false (show ¬ r1.sv = .non by rw [hpv]; intro z; cases z)]
        have hDi := hD1.mono hp1.imm
        have hSi := hSd.mono hp1.imm
        obtain ⟨dxd, rd_, pdp, pdd, rsd, hpdi, _⟩ := id hDi
        obtain ⟨dxs, rs_, psp, psd, rss, hpsi, _⟩ := id hSi
        refine iteT ⟨_, rfl, p, dxd, _, rfl, hpdi, rfl, _, rfl, a, c.pr, r1.dx, _, _, rfl, hp1.ins, T.cl_pr, T.n_pr_sent, rfl, rfl, rfl, p, ps, _, S, true, by rw [hpv]; rfl, hDi, hSi, hSL, hFL, hFP, by omega, fun Ha f sa hf => ?_⟩
        have hpa := hp1.grow sa
        refine ⟨_, rfl, a, c.pr, r1.dx, _, _, rfl, hpa.ins, T.cl_pr, T.n_pr_sent, rfl, ps, dxs, _, hpv, sa _ _ hpsi, rfl, _, rfl, rfl, rfl, ps, p, S, _, false, rfl, hSi.mono sa, hDi.mono sa, hSL.symm, by omega, by omega, hFP, fun Hb g sb hg => ⟨lk 2 (by decide), fun tp htp => ?_⟩⟩
        have sc := (sa.trans sb).trans (same_upd (o := .tup [.ref f, .ref g]) htp)
        have hpc := hp1.grow sc
        refine ⟨tp, _, rfl, SqT.of upd_same, rfl, _, _, rfl, _, _, rfl, _, rfl, a, c.pr, r1.dx, _, rfl, hpc.ins, T.cl_pr, T.n_pr_sent, by show 8 < 1000; decide, rfl, hN _ _ ⟨{ r1 with sv := .ref g }, f, rfl, same_a (s1.trans sc), e1, e1', ?_, ?_⟩⟩
        · have hg2 : DelAt c (Msk (upd Hb tp (.tup [.ref f, .ref g])) M) g (gaps (over S (D) false)) := (DelAt.mono (live_fr hpa.live) hg).mono (msk_mono (same_upd htp))
          refine hpc.set (r' := { r1 with sv := .ref g }) (P' := { PP with base := app D PP.base, sent := beyond D PP.sent }) rfl rfl rfl rfl hpc.base hpc.own ?_ hpc.wait
          show OptD c _ _ (beyond (D) PP.sent)
          rw [eB]
          exact ⟨g, rfl, hg2⟩
        · rw [msk_mut hp.aM, eP]
          exact (DelAt.mono (live_fr hp1.live) hf).mono (msk_mono (sb.trans (same_upd htp)))
    rintro σ H3 ⟨r3, f3, rfl, s3, e3, e3', hp3, hD3⟩
    -- what comes is as long as what one has in between
    have hmid : (past D PP.sent).ds.length = PP.mid ∧ DOk (past D PP.sent) ∧ PP.mid ≤ 400 := by
      unfold PS.mid
      cases hS : PP.sent with
      | none => exact ⟨hDl, hDo, by show PP.base.length ≤ _; omega⟩
      | some S =>
        obtain ⟨hsl, hso⟩ := hps.s S hS
        have := aft_le S
        have := hso.l
        exact ⟨over_ds hso.w (by omega), hDo.over, by show aft S ≤ _; omega⟩
    obtain ⟨hm1, hm2, hm3⟩ := hmid
    generalize hF0 : past D PP.sent = F at *
    -- past what is waiting
    refine seq_join (fun σ H4 => ∃ r4 f, σ = [some (.ref a), some (.ref p), some (.ref f), none, none] ∧ Same (Msk H [a]) H4 ∧ r4.bl = r.bl ∧ r4.bs = r.bs ∧ PrAt c H4 M a nm k { PP with base := app D PP.base, sent := beyond D PP.sent, wait := beyond (F) PP.wait } r4 ∧ DelAt c (Msk H4 M) f (past (F) PP.wait)) (fun N hN => ?_) ?_
    · have hs := hp3.wait
      refine ⟨_, rfl, a, c.pr, r3.dx, _, _, rfl, hp3.ins, T.cl_pr, T.n_pr_waiting, rfl, rfl, _, rfl, ?_⟩
      cases hS : PP.wait with
      | none =>
        have hs2 : OptD c (Msk H3 M) r3.wv none := by rw [← hS]; exact hs
        have eB : beyond (F) PP.wait = PP.wait := by rw [hS]; rfl
        have eP : past (F) PP.wait = (F) := by rw [hS]; rfl
        rw [decide_eq_true (show r3.wv = .non from hs2)]
        exact iteF (hN _ _ ⟨r3, f3, rfl, s3, e3, e3', by rw [eB]; exact hp3, by rw [eP]; exact hD3⟩)
      | some S =>
        have hs2 : OptD c (Msk H3 M) r3.wv (some S) := by rw [← hS]; exact hs
        have eB : beyond (F) PP.wait = some (gaps (over S (F) false)) := by rw [hS]; rfl
        have eP : past (F) PP.wait = gaps (over (F) S true) := by rw [hS]; rfl
        obtain ⟨ps, hpv, hSd⟩ := hs2
        obtain ⟨hsl, hso⟩ := hps.w S hS
        have hsw := hso.l
        have hSL : S.ds.length = F.ds.length := by omega
        have hFL : F.ds.length ≤ 50000 := by omega
        have hFP : F.ps.flatten.length ≤ 50000 := by have := hm2.l; omega
        rw [decide_eq_false (show ¬ r3.wv = .non by rw [hpv]; intro z; cases z)]
        have hDi := hD3.mono hp3.imm
        have hSi := hSd.mono hp3.imm
        obtain ⟨dxd, rd_, pdp, pdd, rsd, hpdi, _⟩ := id hDi
        obtain ⟨dxs, rs_, psp, psd, rss, hpsi, _⟩ := id hSi
        refine iteT ⟨_, rfl, f3, dxd, _, rfl, hpdi, rfl, _, rfl, a, c.pr, r3.dx, _, _, rfl, hp3.ins, T.cl_pr, T.n_pr_waiting, rfl, rfl, rfl, f3, ps, _, S, true, by rw [hpv]; rfl, hDi, hSi, hSL, hFL, hFP, by omega, fun Ha f sa hf => ?_⟩
        have hpa := hp3.grow sa
        refine ⟨_, rfl, a, c.pr, r3.dx, _, _, rfl, hpa.ins, T.cl_pr, T.n_pr_waiting, rfl, ps, dxs, _, hpv, sa _ _ hpsi, rfl, _, rfl, rfl, rfl, ps, f3, S, _, false, rfl, hSi.mono sa, hDi.mono sa, hSL.symm, by omega, by omega, hFP, fun Hb g sb hg => ⟨lk 2 (by decide), fun tp htp => ?_⟩⟩
        have sc := (sa.trans sb).trans (same_upd (o := .tup [.ref f, .ref g]) htp)
        have hpc := hp3.grow sc
        refine ⟨tp, _, rfl, SqT.of upd_same, rfl, _, _, rfl, _, _, rfl, _, rfl, a, c.pr, r3.dx, _, rfl, hpc.ins, T.cl_pr, T.n_pr_waiting, by show 8 < 1000; decide, rfl, hN _ _ ⟨{ r3 with wv := .ref g }, f, rfl, same_a (s3.trans sc), e3, e3', ?_, ?_⟩⟩
        · have hg2 : DelAt c (Msk (upd Hb tp (.tup [.ref f, .ref g])) M) g (gaps (over S (F) false)) := (DelAt.mono (live_fr hpa.live) hg).mono (msk_mono (same_upd htp))
          refine hpc.set (r' := { r3 with wv := .ref g }) (P' := { PP with base := app D PP.base, sent := beyond D PP.sent, wait := beyond (F) PP.wait }) rfl rfl rfl rfl hpc.base hpc.own hpc.sent ?_
          show OptD c _ _ (beyond (F) PP.wait)
          rw [eB]
          exact ⟨g, rfl, hg2⟩
        · rw [msk_mut hp.aM, eP]
          exact (DelAt.mono (live_fr hp3.live) hf).mono (msk_mono (sb.trans (same_upd htp)))
    rintro σ H4 ⟨r4, f4, rfl, s4, e4, e4', hp4, hD4⟩
    have hol := hps.o.l
    have hend : (past F PP.wait).ds.length = PP.own.length ∧ DOk (past F PP.wait) := by
      have he := hps.e
      unfold PS.end_ at he
      cases hS : PP.wait with
      | none =>
        rw [hS] at he
        exact ⟨hm1.trans he.symm, hm2⟩
      | some S =>
        rw [hS] at he
        obtain ⟨hsl, hso⟩ := hps.w S hS
        exact ⟨(over_ds hso.w (hsl.trans hm1.symm)).trans he.symm, hm2.over⟩
    obtain ⟨hn1, hn2⟩ := hend
    have hTake : psTake PP D = { PP with base := app D PP.base, sent := beyond D PP.sent, wait := beyond (past D PP.sent) PP.wait, own := app (past (past D PP.sent) PP.wait) PP.own, backs := (mvB (past (past D PP.sent) PP.wait) PP.backs.reverse).reverse } := rfl
    rw [← hF0] at hn1 hn2 hD4
    rw [← hF0] at hp4
    generalize past (past D PP.sent) PP.wait = G at *
    refine seq_join (fun σ H5 => ∃ r5, σ = [some (.ref a), some (.ref p), some (.ref f4), none, none] ∧ Same (Msk H [a]) H5 ∧ r5.bl = r.bl ∧ r5.bs = r.bs ∧ PrAt c H5 M a nm k { PP with base := app D PP.base, sent := beyond D PP.sent, wait := beyond (past D PP.sent) PP.wait, own := app G PP.own } r5 ∧ DelAt c (Msk H5 M) f4 G) (fun N hN => ?_) ?_
    · have hDi := hD4.mono hp4.imm
      obtain ⟨dxd, rd_, pdp, pdd, rsd, hpdi, _⟩ := id hDi
      refine ⟨_, rfl, f4, rfl, _, rfl, a, c.pr, r4.dx, _, .ref r4.o, rfl, hp4.ins, T.cl_pr, T.n_pr_own_text, rfl, .inr ⟨_, _, hpdi⟩, f4, r4.o, G, PP.own, rfl, hDi, hp4.own.mono hp4.imm, hn1.symm, hps.o.c, hn2.c, by omega, by have := hn2.l; omega, fun H2 z s2 hz => ?_⟩
      have hp2 := hp4.grow s2
      refine ⟨_, rfl, a, c.pr, r4.dx, _, rfl, hp2.ins, T.cl_pr, T.n_pr_own_text, by show 8 < 1000; decide, hN _ _ ⟨{ r4 with o := z }, rfl, same_a (s4.trans s2), e4, e4', hp2.set (r' := { r4 with o := z }) (P' := { PP with base := app D PP.base, sent := beyond D PP.sent, wait := beyond (past D PP.sent) PP.wait, own := app G PP.own }) rfl rfl rfl rfl hp2.base (hz.mono (live_fr hp4.live)) hp2.sent hp2.wait, ?_⟩⟩
      rw [msk_mut hp.aM]
      exact hD4.mono (msk_mono s2)
    rintro σ H5 ⟨r5, rfl, s5, e5, e5', hp5, hD5⟩
    have hch := hps.ch
    have hbl20 := hps.bl
    have hbk : Paired (DelAt c (Msk H5 M)) r5.bs.reverse PP.backs.reverse := pr_rev hp5.backs
    have hAl : PP.backs.reverse.length ≤ 20 := by rw [List.length_reverse]; exact hbl20
    rw [← hn1] at hch
    generalize PP.backs.reverse = BS at *
    refine seq_join (fun σ H6 => ∃ mv, σ = [some (.ref a), some (.ref p), some (.ref f4), some (.ref mv), none] ∧ H5 mv = none ∧ H6 = upd H5 mv (.lst [])) (fun N hN => ⟨lk 0 (by decide), fun mv hmv => hN _ _ ⟨mv, rfl, hmv, rfl⟩⟩) ?_
    rintro σ H6 ⟨mv, rfl, hmv, rfl⟩
    have hmvM : mv ∉ M := fun z => hp5.live mv z hmv
    refine seq_join (fun σ H7 => ∃ f v4 ms, σ = [some (.ref a), some (.ref p), some (.ref f), some (.ref mv), v4] ∧ Same (Msk (upd H5 mv (.lst [])) [mv]) H7 ∧ H7 mv = some (.lst (ms.map V.ref)) ∧ Paired (DelAt c (Msk H7 (mv :: M))) ms (mvB G BS)) (fun N hN => ?_) ?_
    · have hp6 := hp5.grow (same_upd (o := .lst []) hmv)
      refine ⟨_, rfl, a, c.pr, r5.dx, _, .ref r5.bl, rfl, hp6.ins, T.cl_pr, T.n_pr_backs, rfl, r5.bl, _, rfl, SqL.of hp6.lst, fun rv hrv => ?_⟩
      have hrm : mv ≠ rv := ne_of_none (H := upd H5 mv (.lst [])) upd_same hrv
      have hrv5 : H5 rv = none := (same_upd hmv).free hrv
      have hb7 : (upd (upd H5 mv (.lst [])) rv (.lst (r5.bs.map V.ref).reverse)) mv = some (.lst (([] : List Addr).map V.ref)) := by rw [upd_ne hrm]; exact upd_same
      have hr7 : (upd (upd H5 mv (.lst [])) rv (.lst (r5.bs.map V.ref).reverse)) rv = some (.lst (r5.bs.reverse.map V.ref)) := by rw [upd_same, List.map_reverse]
      have s7 : Same H5 (upd (upd H5 mv (.lst [])) rv (.lst (r5.bs.map V.ref).reverse)) := (same_upd hmv).trans (same_upd hrv)
      have s67 : Same (Msk (upd H5 mv (.lst [])) [mv]) (upd (upd H5 mv (.lst [])) rv (.lst (r5.bs.map V.ref).reverse)) := msk_same.trans (same_upd hrv)
      generalize upd (upd H5 mv (.lst [])) rv (.lst (r5.bs.map V.ref).reverse) = H7 at *
      have hM7 : Same (Msk H5 M) (Msk H7 (mv :: M)) := fun b u e => by
        have nb : b ∉ M := fun z => by rw [msk_in z] at e; cases e
        rw [msk_at nb] at e
        have nm : b ≠ mv := ne_of_none e hmv
        rw [msk_at (by simp; exact ⟨nm, nb⟩)]
        exact s7 _ _ e
      have hrvB : Msk H7 [mv] rv = some (.lst (r5.bs.reverse.map V.ref)) := by rw [msk_at (by simpa using hrm.symm)]; exact hr7
      refine ⟨rv, rfl, ⟨_, SqL.of hr7⟩, ?_⟩
      refine for_list (K := K) (a := rv) (xs := r5.bs.reverse.map V.ref) (fun i σ H8 => ∃ f v4 ms dn fD, σ = [some (.ref a), some (.ref p), some (.ref f), some (.ref mv), v4] ∧ Same (Msk H7 [mv]) H8 ∧ H8 mv = some (.lst (ms.map V.ref)) ∧ Paired (DelAt c (Msk H8 (mv :: M))) ms dn ∧ DelAt c (Msk H8 (mv :: M)) f fD ∧
          mvB G BS = dn ++ mvB fD (BS.drop i) ∧ Chain fD.ds.length (BS.drop i) ∧ DOk fD ∧ fD.ds.length ≤ 400 + 200 * i ∧ dn.length = i)
        ⟨f4, none, [], [], G, rfl, msk_same, hb7, .nil, hD5.mono hM7, rfl, hch, hn2, by omega, rfl⟩ ?_ ?_ ?_
      · rintro i σ H8 - ⟨f, v4, ms, dn, fD, rfl, s8, _⟩
        exact SqL.of (s8 _ _ hrvB)
      · rintro i x σ H8 hx ⟨f, v4, ms, dn, fD, rfl, s8, hms, hmd, hf, hmb, hcn, hfo, hfl, hdn⟩
        obtain ⟨b, hb, rfl⟩ := lmap_at hx
        obtain ⟨B, hBi, hBd⟩ := pr_at2 hbk hb
        have hi := (List.getElem?_eq_some_iff.mp hBi).1
        have hdrop : BS.drop i = B :: BS.drop (i + 1) := by
          obtain ⟨h1, h2⟩ := List.getElem?_eq_some_iff.mp hBi
          rw [List.drop_eq_getElem_cons h1, h2]
        rw [hdrop] at hmb hcn
        obtain ⟨hc1, hc2, hc3, hc4⟩ := hcn
        have hB8 : DelAt c (Msk H8 (mv :: M)) b B := DelAt.mono (fun q u e => by
          have nq : q ≠ mv := fun z => by rw [z, msk_in (by simp)] at e; cases e
          have e2 := e
          rw [msk_at (fun z => by rw [msk_in z] at e; cases e)] at e2
          rw [msk_at (fun z => by rw [msk_in z] at e; cases e)]
          refine s8 _ _ ?_
          rw [msk_at (by simpa using nq)]
          exact e2) (hBd.mono hM7)
        have hBi8 := hB8.mono msk_same
        have hfi8 := hf.mono msk_same
        obtain ⟨dxb, rb_, pbp, pbd, rsb, hbi, _⟩ := id hBi8
        obtain ⟨dxf, rf_, pfp, pfd, rsf, hfi, _⟩ := id hfi8
        have hml := pr_len hmd
        have hfL := hfo.l
        have live8 : ∀ m ∈ mv :: M, H8 m ≠ none := by
          intro m hm
          rcases List.mem_cons.mp hm with z | z
          · rw [z, hms]; intro y; cases y
          · refine dom_same s8 m ?_
            have nm : m ≠ mv := fun y => hmvM (by rw [← y]; exact z)
            rw [msk_at (by simpa using nm)]
            exact dom_same s7 m (hp5.live m z)
        refine ⟨_, rfl, .inl ⟨rfl, _, SqL.of hms⟩, _, rfl, b, dxb, _, rfl, hbi, rfl, _, rfl, rfl, rfl, b, f, B, fD, true, rfl, hBi8, hfi8, hc1.symm, by omega, by omega, by omega, fun Hx z sx hz => ⟨mv, ms.map V.ref, _, rfl, rfl, sx _ _ hms, szlt _ (by rw [List.length_map]; omega), ?_⟩⟩
        have em : Msk (upd Hx mv (.lst (ms.map V.ref ++ [.ref z]))) (mv :: M) = Msk Hx (mv :: M) := msk_mut (by simp)
        have hzx : DelAt c (Msk Hx (mv :: M)) z (gaps (over B fD true)) := DelAt.mono (live_fr live8) hz
        have hBx := hB8.mono (msk_mono sx)
        have hfx := hf.mono (msk_mono sx)
        have sy : Same (Msk H7 [mv]) (upd Hx mv (.lst (ms.map V.ref ++ [.ref z]))) := fun q u e => by
          have nq : q ≠ mv := fun z => by rw [z, msk_in (by simp)] at e; cases e
          rw [upd_ne nq]
          exact sx _ _ (s8 _ _ e)
        have hmsy : (upd Hx mv (.lst (ms.map V.ref ++ [.ref z]))) mv = some (.lst ((ms ++ [z]).map V.ref)) := by rw [upd_same, List.map_append]; rfl
        have livey : ∀ m ∈ mv :: M, (upd Hx mv (.lst (ms.map V.ref ++ [.ref z]))) m ≠ none := fun m hm => dom_upd m (dom_same sx m (live8 m hm))
        rw [← em] at hzx hBx hfx
        have hmdy := pr_imp (fun _ _ z => DelAt.mono (msk_mono sx) z) hmd
        rw [← em] at hmdy
        generalize upd Hx mv (.lst (ms.map V.ref ++ [.ref z])) = Hy at *
        have hByi := hBx.mono msk_same
        have hfyi := hfx.mono msk_same
        obtain ⟨dxb2, rb2, pbp2, pbd2, rsb2, hbi2, _⟩ := id hByi
        obtain ⟨dxf2, rf2, pfp2, pfd2, rsf2, hfi2, _⟩ := id hfyi
        refine ⟨_, rfl, f, dxf2, _, rfl, hfi2, rfl, _, rfl, rfl, rfl, f, b, fD, B, false, rfl, hfyi, hByi, hc1, by omega, by omega, by omega, fun Hz g sz2 hg => ?_⟩
        refine ⟨g, _, ms ++ [z], dn ++ [gaps (over B fD true)], gaps (over fD B false), rfl, sy.trans sz2, sz2 _ _ hmsy, ?_, hg.mono (live_fr livey), ?_, ?_, hfo.over, ?_, ?_⟩
        · exact pr_app (pr_imp (fun _ _ z => DelAt.mono (msk_mono sz2) z) hmdy) (.cons (hzx.mono (msk_mono sz2)) .nil)
        · rw [hmb, List.append_assoc]
          rfl
        · rw [over_ds hc2 hc1]
          exact hc4
        · rw [over_ds hc2 hc1]
          have := aft_le B
          omega
        · rw [List.length_append, hdn]
          rfl
      · rintro σ H8 ⟨f, v4, ms, dn, fD, rfl, s8, hms, hmd, hf, hmb, hcn, hfo, hfl, hdn⟩
        have hbl2 : (r5.bs.reverse.map V.ref).length = BS.length := by rw [List.length_map, pr_len hbk]
        rw [hbl2, List.drop_length] at hmb
        have hmb2 : mvB G BS = dn := by rw [hmb]; exact List.append_nil _
        refine hN _ _ ⟨f, v4, ms, rfl, ?_, hms, by rw [hmb2]; exact hmd⟩
        intro q u e
        refine s8 _ _ ?_
        have nq : q ≠ mv := fun z => by rw [z, msk_in (by simp)] at e; cases e
        rw [msk_at (by simpa using nq)]
        exact s67 _ _ e
    rintro σ H8 ⟨f, v4, ms, rfl, s8, hms, hmd⟩
    have s58 : Same H5 H8 := fun b u e => by
      refine s8 _ _ ?_
      rw [msk_at (by simpa using ne_of_none e hmv)]
      exact (same_upd hmv) _ _ e
    have hp8 := hp5.grow s58
    refine ⟨_, rfl, mv, ms.map V.ref, rfl, SqL.of hms, fun nb hnb => ?_⟩
    have hp9 := hp8.grow (same_upd (o := .lst (ms.map V.ref).reverse) hnb)
    refine ⟨_, rfl, a, c.pr, r5.dx, _, rfl, hp9.ins, T.cl_pr, T.n_pr_backs, by show 8 < 1000; decide, ?_⟩
    have nbM : nb ∉ M := fun z => hp8.live nb z hnb
    have nba : nb ≠ a := fun z => nbM (by rw [z]; exact hp.aM)
    have mk : ∀ u, Same (Msk H8 M) (Msk (upd (upd H8 nb (.lst (ms.map V.ref).reverse)) a u) (nb :: M)) := fun u b o e => by
      have nb1 : b ∉ M := fun z => by rw [msk_in z] at e; cases e
      rw [msk_at nb1] at e
      have nb2 : b ≠ nb := ne_of_none e hnb
      have nb3 : b ≠ a := fun z => nb1 (by rw [z]; exact hp.aM)
      rw [msk_at (by simp; exact ⟨nb2, nb1⟩), upd_ne nb3]
      exact (same_upd hnb) _ _ e
    have mk2 : Same (Msk H8 (mv :: M)) (Msk H8 M) := msk_less fun b h => List.mem_cons_of_mem _ h
    refine q _ { r5 with bl := nb, bs := ms.reverse } (same_a ((s5.trans s58).trans (same_upd hnb))) ?_ ?_
    · cases e : H nb with
      | none => rfl
      | some o =>
        have : (Msk H [a]) nb = some o := by rw [msk_at (by simpa using nba)]; exact e
        have := s58 _ _ (s5 _ _ this)
        rw [hnb] at this
        cases this
    · rw [hTake]
      refine ⟨List.mem_cons_of_mem _ hp.aM, List.mem_cons_self .., fun m hm => ?_, upd_same, hp8.base.mono (mk _), hp8.own.mono (mk _), hp8.sent.mono (mk _), hp8.wait.mono (mk _), ?_, ?_⟩
      · rcases List.mem_cons.mp hm with z | z
        · rw [z, upd_ne nba, upd_same]
          intro y; cases y
        · exact dom_upd m (dom_upd m (hp8.live m z))
      · show upd _ a _ nb = _
        rw [upd_ne nba, upd_same, List.map_reverse]
      · exact pr_rev (pr_imp (fun _ _ z => (DelAt.mono mk2 z).mono (mk _)) hmd)
end
end Tc
/-! # The walks: a program receives; a program is made -/
namespace Tc
open PySem PySem.Spec PyProof.Rows L2
theorem PrAt.dup {c : Cs} {H : Hp} {M : List Addr} {a x : Addr} {nm : Str} {k : Kd} {P : PS} {r : PRec} (hx : x ∈ M) (h : PrAt c H M a nm k P r) : PrAt c H (x :: M) a nm k P r := by
  have e : Msk H (x :: M) = Msk H M := by
    funext b
    unfold Msk
    by_cases hb : b ∈ M
    · rw [if_pos hb, if_pos (List.mem_cons_of_mem _ hb)]
    · rw [if_neg hb, if_neg fun z => (List.mem_cons.mp z).elim (fun y => hb (by rw [y]; exact hx)) hb]
  refine ⟨List.mem_cons_of_mem _ h.aM, List.mem_cons_of_mem _ h.blM, fun m hm => (List.mem_cons.mp hm).elim (fun y => h.live m (by rw [y]; exact hx)) (h.live m), h.ins, by rw [e]; exact h.base, by rw [e]; exact h.own, by rw [e]; exact h.sent, by rw [e]; exact h.wait, h.lst, by rw [e]; exact h.backs⟩
def DnAt (c : Cs) (H : Hp) (k : Kd) (v : Nat) (t : List Int) (m : Addr) : Dn → Prop
  | .ack => H m = some (.tup [.str "ack", .int (v : Nat)])
  | .chg D => ∃ rr rs, H m = some (.tup [.str "change", .int (v : Nat), .ref rr]) ∧ RowsAt H rr (crows (wd k) t 0 rs) ∧ gaps rs = D ∧ rs.length ≤ 2 * D.ds.length + 1 ∧ t.length = D.ds.length
theorem DnAt.mono {c : Cs} {H H' : Hp} {k : Kd} {v : Nat} {t : List Int} {m : Addr} {x : Dn} (s : Same H H') (h : DnAt c H k v t m x) : DnAt c H' k v t m x := by
  cases x with
  | ack => exact s _ _ h
  | chg D =>
    obtain ⟨rr, rs, h1, h2, h3⟩ := h
    exact ⟨rr, rs, s _ _ h1, h2.mono s, h3⟩
section
variable {P : Program} {w : World} {K : PySem.W.Frag} {mg : Str → Option Value} {base : Heap} {c : Cs}
/- Program.need_message: 0 self, 1 message -/
theorem sc_Program_need_message : FnScope ["self", "message"] ["self", "message"] (defScope s_Program_need_message) := ⟨rfl, rfl, rfl, by decide +kernel, rfl, by decide +kernel, by decide +kernel⟩
theorem bi_Program_need_message : BindsB "need_message" "Program.need_message" s_Program_need_message ["self", "message"] := fun _ _ _ _ _ _ us hl => match us, hl with | [_, _], _ => rfl
def spPrNeed (c : Cs) : Sp := fun vs H Q _ => ∃ a m M nm k P r, vs = [.ref a, .ref m] ∧ PrAt c H M a nm k P r ∧ (P.ver < 1000000) ∧
  ((H m = some (.tup [.str "ack", .int (P.ver + 1 : Nat)]) ∧ P.sent ≠ none) ∨ ∃ rr, H m = some (.tup [.str "change", .int (P.ver + 1 : Nat), .ref rr])) ∧ ∀ H', Same H H' → Q .non H'
theorem ok_Program_need_message (T : Txt K mg c) (G_is_integer : GF P w K mg base 1 "is_integer" ["value", "low", "high"] spIsInteger) : MF P w K mg base 2 c.pr "need_message" ["self", "message"] [] (spPrNeed c) := by
  refine T.d_Program_need_message.mf sc_Program_need_message bi_Program_need_message (fun vs H Q E h => ?_) (fun f cdv A outer s H vs Q E hr h => ?_)
  · obtain ⟨a, m, M, nm, k, PP, r, rfl, _⟩ := h
    rfl
  · obtain ⟨a, m, M, nm, k, PP, r, rfl, hp, hv, hm, q⟩ := h
    refine ⟨_, (pss_cons (ps_if (PW.pt (pw_or (pt_not (pt_val (pe_callB call_isi (by rfl) T.z_isinstance (by decide +kernel) (pa_cons (pv 1) (pa_cons (pe_bltn (by rfl) T.z_tuple (by decide +kernel) (show RelV (.ty "tuple") _ from rfl)) pa_nil))))) (pw_or (pt_cmpR op_lt (pe_callB call_len_seq (by rfl) T.z_len (by decide +kernel) (pa_cons (pv 1) pa_nil)) pe_int (nomark _)) (pw_or1 (pt_not (pt_val (pe_callB call_isi (by rfl) T.z_isinstance (by decide +kernel) (pa_cons (pe_ix ix_tup (pv 1) pe_int (fun _ _ => rfl)) (pa_cons (pe_bltn (by rfl) T.z_str (by decide +kernel) (show RelV (.ty "str") _ from rfl)) pa_nil))))))))) (pss_one ps_never) pss_nil)
      (pss_cons (ps_if (pt_cmpR op_ne (pe_callB call_len_seq (by rfl) T.z_len (by decide +kernel) (pa_cons (pv 1) pa_nil)) (pe_dget1 (hu1 hr) (pe_disp (pps_cons (pe_globE T.s_ACK_programs) pe_int (pps_cons (pe_globE T.s_CHANGE_programs) pe_int pps_nil)) (by rfl) (by rfl) (by intro h; cases h) (by decide)) (pe_ix ix_tup (pv 1) pe_int (fun _ _ => rfl)) ⟨rfl, rfl, rfl, rfl⟩) (nomark _)) (pss_one ps_never) pss_nil)
      (pss_cons (ps_if (pt_not (pt_val (pe_gf G_is_integer hr (pa_cons (pe_ix ix_tup (pv 1) pe_int (fun _ _ => rfl)) (pa_cons (pe_op op_add (pe_fld (pv 0) rfl) pe_int) (pa_cons (pe_op op_add (pe_fld (pv 0) rfl) pe_int) pa_nil)))))) (pss_one ps_never) pss_nil)
      (pss_one (ps_if (PW.pt (pw_and (pt_cmpR op_eq (pe_ix ix_tup (pv 1) pe_int (fun _ _ => rfl)) (pe_globE T.s_ACK_programs) (nomark _)) (pw_and1 (pt_cmpR op_isN (pe_fld (pv 0) rfl) pe_non (nomark _))))) (pss_one ps_never) pss_nil))))), ?_⟩
    rcases hm with ⟨hm, hsn⟩ | ⟨rr, hm⟩
    · refine seq_join (fun σ H1 => σ = [some (.ref a), some (.ref m)] ∧ H1 = H) (fun N hN => ?_) ?_
      · refine ⟨_, rfl, _, _, _, _, true, rfl, .ty _, .base (.tup hm), kit_ty (by decide +kernel), true, rfl, iteF ?_⟩
        refine ⟨_, rfl, m, _, rfl, .inr (SqT.of hm), _, _, rfl, rfl, _, rfl, iteF ?_⟩
        exact ⟨_, rfl, m, _, 0, .str "ack", rfl, rfl, SqT.of hm, rfl, _, _, _, _, true, rfl, .ty _, .base (.str _), kit_ty (by decide +kernel), true, rfl, iteF (hN _ _ ⟨rfl, rfl⟩)⟩
      rintro σ H1 ⟨rfl, rfl⟩
      refine seq_join (fun σ H2 => σ = [some (.ref a), some (.ref m)] ∧ Same H1 H2) (fun N hN => ?_) ?_
      · refine ⟨_, rfl, m, _, rfl, .inr (SqT.of hm), fun d hd => ⟨upd_same, [(.inr "ack", .int 2), (.inr "change", .int 3)], rfl, by decide, ?_⟩⟩
        have s1 : Same H1 (upd (upd H1 d (.dK [])) d (.dK (mergeK [] [(.inr "ack", .int 2), (.inr "change", .int 3)]))) := by
          rw [upd_upd]
          exact same_upd hd
        refine ⟨d, rfl, .inl ⟨_, .inl upd_same⟩, _, rfl, m, _, 0, .str "ack", rfl, rfl, SqT.of (s1 _ _ hm), rfl, some (.int 2), ?_, rfl, _, rfl, iteF (hN _ _ ⟨rfl, s1⟩)⟩
        have := DGet.k (H := upd (upd H1 d (.dK [])) d (.dK (mergeK [] [(.inr "ack", .int 2), (.inr "change", .int 3)]))) (k := .inr "ack") upd_same
        rw [show valV (mergeK [] [(.inr "ack", V.int 2), (.inr "change", V.int 3)]) (.inr "ack" : Key) = some (.int 2) by decide +kernel] at this
        exact this
      rintro σ H2 ⟨rfl, s2⟩
      have hp2 := hp.grow s2
      have hm2 := s2 _ _ hm
      refine seq_join (fun σ H3 => σ = [some (.ref a), some (.ref m)] ∧ H3 = H2) (fun N hN => ?_) ?_
      · refine ⟨_, rfl, m, _, 1, .int (PP.ver + 1 : Nat), rfl, rfl, SqT.of hm2, rfl, ?_⟩
        refine ⟨_, rfl, a, c.pr, r.dx, _, .int (PP.ver : Nat), rfl, hp2.ins, T.cl_pr, T.n_pr_own_version, rfl, _, _, rfl, rfl, ?_⟩
        refine ⟨_, rfl, a, c.pr, r.dx, _, .int (PP.ver : Nat), rfl, hp2.ins, T.cl_pr, T.n_pr_own_version, rfl, _, _, rfl, rfl, _, _, _, rfl, _, rfl, ?_⟩
        rw [decide_eq_true (show ((PP.ver : Nat) : Int) + 1 ≤ ((PP.ver + 1 : Nat) : Int) ∧ ((PP.ver + 1 : Nat) : Int) ≤ ((PP.ver : Nat) : Int) + 1 by omega)]
        exact iteF (hN _ _ ⟨rfl, rfl⟩)
      rintro σ H3 ⟨rfl, rfl⟩
      refine ⟨_, rfl, m, _, 0, .str "ack", rfl, rfl, SqT.of hm2, rfl, rfl, _, rfl, ?_⟩
      rw [decide_eq_true (show V.str "ack" = V.str "ack" from rfl)]
      refine iteT ⟨_, rfl, a, c.pr, r.dx, _, r.sv, rfl, hp2.ins, T.cl_pr, T.n_pr_sent, rfl, rfl, _, rfl, ?_⟩
      have hs := hp2.sent
      cases hS : PP.sent with
      | none => exact absurd hS hsn
      | some S =>
        rw [hS] at hs
        obtain ⟨ps, h1, _⟩ := hs
        rw [decide_eq_false (show ¬ r.sv = .non by rw [h1]; intro z; cases z)]
        exact iteF (q _ s2)
    · refine seq_join (fun σ H1 => σ = [some (.ref a), some (.ref m)] ∧ H1 = H) (fun N hN => ?_) ?_
      · refine ⟨_, rfl, _, _, _, _, true, rfl, .ty _, .base (.tup hm), kit_ty (by decide +kernel), true, rfl, iteF ?_⟩
        refine ⟨_, rfl, m, _, rfl, .inr (SqT.of hm), _, _, rfl, rfl, _, rfl, iteF ?_⟩
        exact ⟨_, rfl, m, _, 0, .str "change", rfl, rfl, SqT.of hm, rfl, _, _, _, _, true, rfl, .ty _, .base (.str _), kit_ty (by decide +kernel), true, rfl, iteF (hN _ _ ⟨rfl, rfl⟩)⟩
      rintro σ H1 ⟨rfl, rfl⟩
      refine seq_join (fun σ H2 => σ = [some (.ref a), some (.ref m)] ∧ Same H1 H2) (fun N hN => ?_) ?_
      · refine ⟨_, rfl, m, _, rfl, .inr (SqT.of hm), fun d hd => ⟨upd_same, [(.inr "ack", .int 2), (.inr "change", .int 3)], rfl, by decide, ?_⟩⟩
        have s1 : Same H1 (upd (upd H1 d (.dK [])) d (.dK (mergeK [] [(.inr "ack", .int 2), (.inr "change", .int 3)]))) := by
          rw [upd_upd]
          exact same_upd hd
        refine ⟨d, rfl, .inl ⟨_, .inl upd_same⟩, _, rfl, m, _, 0, .str "change", rfl, rfl, SqT.of (s1 _ _ hm), rfl, some (.int 3), ?_, rfl, _, rfl, iteF (hN _ _ ⟨rfl, s1⟩)⟩
        have := DGet.k (H := upd (upd H1 d (.dK [])) d (.dK (mergeK [] [(.inr "ack", .int 2), (.inr "change", .int 3)]))) (k := .inr "change") upd_same
        rw [show valV (mergeK [] [(.inr "ack", V.int 2), (.inr "change", V.int 3)]) (.inr "change" : Key) = some (.int 3) by decide +kernel] at this
        exact this
      rintro σ H2 ⟨rfl, s2⟩
      have hp2 := hp.grow s2
      have hm2 := s2 _ _ hm
      refine seq_join (fun σ H3 => σ = [some (.ref a), some (.ref m)] ∧ H3 = H2) (fun N hN => ?_) ?_
      · refine ⟨_, rfl, m, _, 1, .int (PP.ver + 1 : Nat), rfl, rfl, SqT.of hm2, rfl, ?_⟩
        refine ⟨_, rfl, a, c.pr, r.dx, _, .int (PP.ver : Nat), rfl, hp2.ins, T.cl_pr, T.n_pr_own_version, rfl, _, _, rfl, rfl, ?_⟩
        refine ⟨_, rfl, a, c.pr, r.dx, _, .int (PP.ver : Nat), rfl, hp2.ins, T.cl_pr, T.n_pr_own_version, rfl, _, _, rfl, rfl, _, _, _, rfl, _, rfl, ?_⟩
        rw [decide_eq_true (show ((PP.ver : Nat) : Int) + 1 ≤ ((PP.ver + 1 : Nat) : Int) ∧ ((PP.ver + 1 : Nat) : Int) ≤ ((PP.ver : Nat) : Int) + 1 by omega)]
        exact iteF (hN _ _ ⟨rfl, rfl⟩)
      rintro σ H3 ⟨rfl, rfl⟩
      refine ⟨_, rfl, m, _, 0, .str "change", rfl, rfl, SqT.of hm2, rfl, rfl, _, rfl, ?_⟩
      rw [show decide (V.str "change" = V.str "ack") = false by decide +kernel]
      exact iteF (iteF (q _ s2))
/- Program.receive: 0 self, 1 message, 2 delta, 3 why -/
theorem sc_Program_receive : FnScope ["self", "message", "delta", "why"] ["self", "message"] (defScope s_Program_receive) := ⟨rfl, rfl, rfl, by decide +kernel, rfl, by decide +kernel, by decide +kernel⟩
theorem bi_Program_receive : BindsB "receive" "Program.receive" s_Program_receive ["self", "message"] := fun _ _ _ _ _ _ us hl => match us, hl with | [_, _], _ => rfl
def spPrRecv (c : Cs) : Sp := fun vs H Q _ => ∃ a m M nm k P r dn, vs = [.ref a, .ref m] ∧ PrAt c H M a nm k P r ∧ PsOk P ∧ (P.ver < 1000000) ∧ DnAt c (Msk H M) k (P.ver + 1) P.base m dn ∧
  (match dn with | .ack => P.sent ≠ none | .chg D => D.ds.length = P.base.length ∧ DOk D) ∧
  ∀ H' r', Same (Msk H [a]) H' → (r'.bl = r.bl ∨ H r'.bl = none) → PrAt c H' (r'.bl :: M) a nm k (psRecv P dn) r' → Q .non H'
theorem ok_Program_receive (T : Txt K mg c) (G_Program_need_message : MF P w K mg base 2 c.pr "need_message" ["self", "message"] [] (spPrNeed c)) (G_Delta_call : CF P w K mg base 7 c.de (spDelCall c)) (G_delta_from : GF P w K mg base 6 "delta_from" ["rows", "text", "kind"] (spDeltaFrom c))
    (G_Program_take : MF P w K mg base 8 c.pr "take" ["self", "delta"] [] (spPrTake c)) : MF P w K mg base 9 c.pr "receive" ["self", "message"] [] (spPrRecv c) := by
  refine T.d_Program_receive.mf sc_Program_receive bi_Program_receive (fun vs H Q E h => ?_) (fun f cdv A outer s H vs Q E hr h => ?_)
  · obtain ⟨a, m, M, nm, k, PP, r, dn, rfl, _⟩ := h
    rfl
  · obtain ⟨a, m, M, nm, k, PP, r, dn, rfl, hp, hps, hv, hdn, hok, q⟩ := h
    refine ⟨_, (pss_cons (ps_expr (pe_mf G_Program_need_message T.cl_pr hr (pv 0) (pa_cons (pv 1) pa_nil)))
      (pss_cons (ps_if (pt_cmpR op_eq (pe_ix ix_tup (pv 1) pe_int (fun _ _ => rfl)) (pe_globE T.s_ACK_programs) (nomark _)) (pss_one (ps_asg (pe_tup (pa_cons (pe_cfA G_Delta_call hr (pv 0) (pa_cons (pe_fld (pv 0) rfl) pa_nil)) (pa_cons pe_non pa_nil))) (pg_tup rfl (pgs_cons (pg_fld (pv 0)) (pgs_cons (pg_fld (pv 0)) pgs_nil))))) (pss_cons (ps_try_never (fun _ _ z => z) (pss_one (ps_set (i := 2) sc_Program_receive.nd rfl (Or.inl rfl) (pe_gf G_delta_from hr (pa_cons (pe_ix ix_tup (pv 1) pe_int (fun _ _ => rfl)) (pa_cons (pe_fld (pv 0) rfl) (pa_cons (pe_fld (pv 0) rfl) pa_nil)))))) pss_nil)
      (pss_one (ps_expr (pe_mf G_Program_take T.cl_pr hr (pv 0) (pa_cons (pv 2) pa_nil))))))
      (pss_one (ps_fld (pv 0) (pe_ix ix_tup (pv 1) pe_int (fun _ _ => rfl)) rfl)))), ?_⟩
    have hbl := hps.b.l
    cases dn with
    | ack =>
      have hm : H m = some (.tup [.str "ack", .int (PP.ver + 1 : Nat)]) := msk_same _ _ hdn
      refine seq_join (fun σ H1 => σ = [some (.ref a), some (.ref m), none, none] ∧ Same H H1) (fun N hN => ⟨_, rfl, a, r.dx, _, rfl, hp.ins, rfl, _, rfl, a, m, M, nm, k, PP, r, rfl, hp, hv, .inl ⟨hm, hok⟩, fun H1 s1 => hN _ _ ⟨rfl, s1⟩⟩) ?_
      rintro σ H1 ⟨rfl, s1⟩
      have hp1 := hp.grow s1
      have hm1 := s1 _ _ hm
      refine seq_join (fun σ H2 => ∃ r2, σ = [some (.ref a), some (.ref m), none, none] ∧ Same (Msk H [a]) H2 ∧ r2.bl = r.bl ∧ PrAt c H2 M a nm k { PP with base := (match PP.sent with | some s => app s PP.base | none => PP.base), sent := none } r2 ∧ H2 m = some (.tup [.str "ack", .int (PP.ver + 1 : Nat)])) (fun N hN => ?_) ?_
      · refine ⟨_, rfl, m, _, 0, .str "ack", rfl, rfl, SqT.of hm1, rfl, rfl, _, rfl, ?_⟩
        rw [decide_eq_true (show V.str "ack" = V.str "ack" from rfl)]
        have hs := hp1.sent
        cases hS : PP.sent with
        | none => exact absurd hS hok
        | some S =>
          rw [hS] at hs
          obtain ⟨ps, hpv, hSd⟩ := hs
          obtain ⟨hsl, hso⟩ := hps.s S hS
          have hSi := hSd.mono hp1.imm
          obtain ⟨dxs, rs_, psp, psd, rss, hpsi, _⟩ := id hSi
          refine iteT ⟨_, rfl, a, c.pr, r.dx, _, ps, rfl, hp1.ins, T.cl_pr, T.n_pr_sent, by rw [← hpv]; rfl, _, rfl, a, c.pr, r.dx, _, .ref r.b, rfl, hp1.ins, T.cl_pr, T.n_pr_base_text, rfl, .inr ⟨_, _, hpsi⟩, ps, r.b, S, PP.base, rfl, hSi, hp1.base.mono hp1.imm, hsl.symm, hps.b.c, hso.c, by omega, by have := hso.l; omega, fun H2 z s2 hz => ⟨lk 2 (by decide), fun tp htp => ?_⟩⟩
          have s3 := s2.trans (same_upd (o := .tup [.ref z, .non]) htp)
          have hp3 := hp1.grow s3
          refine ⟨tp, _, rfl, SqT.of upd_same, rfl, _, _, rfl, _, rfl, a, c.pr, r.dx, _, rfl, hp3.ins, T.cl_pr, T.n_pr_base_text, by show 8 < 1000; decide, _, _, rfl, _, rfl, a, c.pr, r.dx, _, rfl, upd_same, T.cl_pr, T.n_pr_sent, by show 8 < 1000; decide, rfl, ?_⟩
          rw [upd_upd]
          have hp4 := hp3.set (r' := { r with b := z, sv := .non }) (P' := { PP with base := app S PP.base, sent := none }) rfl rfl rfl rfl ((TextAt.mono (live_fr hp1.live) hz).mono (msk_mono (same_upd htp))) hp3.own rfl hp3.wait
          refine hN _ _ ⟨{ r with b := z, sv := .non }, rfl, same_a ((msk_same.trans s1).trans s3), rfl, ?_, ?_⟩
          · rw [hS]
            exact hp4
          · have nm2 : m ≠ a := fun z => by rw [z, hp.ins] at hm; cases hm
            rw [upd_ne nm2]
            exact s3 _ _ hm1
      rintro σ H2 ⟨r2, rfl, s2, e2, hp2, hm2⟩
      refine ⟨_, rfl, m, _, 1, .int (PP.ver + 1 : Nat), rfl, rfl, SqT.of hm2, rfl, ?_⟩
      refine ⟨_, rfl, a, c.pr, r2.dx, _, rfl, hp2.ins, T.cl_pr, T.n_pr_own_version, by show 8 < 1000; decide, ?_⟩
      have hp3 := hp2.set (r' := r2) (P' := psRecv PP .ack) rfl rfl rfl rfl hp2.base hp2.own hp2.sent hp2.wait
      refine q _ r2 (same_a s2) (.inl e2) (hp3.dup ?_)
      rw [e2]
      exact hp.blM
    | chg D =>
      obtain ⟨hDl, hDo⟩ := hok
      obtain ⟨rr, rs, hm0, hrr, hg, hrl, htl⟩ := hdn
      have hm : H m = some (.tup [.str "change", .int (PP.ver + 1 : Nat), .ref rr]) := msk_same _ _ hm0
      refine seq_join (fun σ H1 => σ = [some (.ref a), some (.ref m), none, none] ∧ Same H H1) (fun N hN => ⟨_, rfl, a, r.dx, _, rfl, hp.ins, rfl, _, rfl, a, m, M, nm, k, PP, r, rfl, hp, hv, .inr ⟨rr, hm⟩, fun H1 s1 => hN _ _ ⟨rfl, s1⟩⟩) ?_
      rintro σ H1 ⟨rfl, s1⟩
      have hp1 := hp.grow s1
      have hm1 := s1 _ _ hm
      have hrr1 := (hrr.mono (msk_mono s1)).mono hp1.imm
      have hm1M := msk_mono s1 _ _ hm0
      have hbr : before rs = PP.base.length := by rw [← ds_gaps, hg, hDl]
      have hrp : rputs rs = D.ps.flatten := by rw [← puts_gaps, hg]
      have hdl := hDo.l
      have nma : m ≠ a := fun z => by rw [z, hp.ins] at hm; cases hm
      refine seq_join (fun σ H2 => ∃ r2 v2, σ = [some (.ref a), some (.ref m), v2, none] ∧ Same (Msk H [a]) H2 ∧ H r2.bl = none ∧ PrAt c H2 (r2.bl :: M) a nm k (psTake PP D) r2 ∧ H2 m = some (.tup [.str "change", .int (PP.ver + 1 : Nat), .ref rr])) (fun N hN => ?_) ?_
      · refine ⟨_, rfl, m, _, 0, .str "change", rfl, rfl, SqT.of hm1, rfl, rfl, _, rfl, ?_⟩
        rw [show decide (V.str "change" = V.str "ack") = false by decide +kernel]
        refine iteF ?_
        refine seq_join (fun σ H3 => ∃ p, σ = [some (.ref a), some (.ref m), some (.ref p), none] ∧ Same H1 H3 ∧ DelAt c (Msk H3 M) p D) (fun N2 hN2 => ?_) ?_
        · exact ⟨_, rfl, m, _, 2, .ref rr, rfl, rfl, SqT.of hm1, rfl, _, rfl, a, c.pr, r.dx, _, .ref r.b, rfl, hp1.ins, T.cl_pr, T.n_pr_base_text, rfl, _, rfl, a, c.pr, r.dx, _, .str k.s, rfl, hp1.ins, T.cl_pr, T.n_pr_own_kind, rfl,
            rr, r.b, PP.base, k, rs, rfl, hrr1, hp1.base.mono hp1.imm, hbr, by omega, by omega, by rw [hrp]; omega, by rw [hrp]; exact hDo.c, fun H3 p s3 hd => hN2 _ _ ⟨p, rfl, s3, by rw [← hg]; exact hd.mono (live_fr hp1.live)⟩⟩
        rintro σ H3 ⟨p, rfl, s3, hd⟩
        have hp3 := hp1.grow s3
        refine ⟨_, rfl, a, r.dx, _, rfl, hp3.ins, rfl, _, rfl, a, p, M, nm, k, PP, r, D, rfl, hp3, hd, hps, hDl, hDo, fun H4 r4 s4 e4 hp4 => hN _ _ ⟨r4, some (.ref p), rfl, ?_, (s1.trans s3).free e4, hp4, ?_⟩⟩
        · exact (msk_mono (s1.trans s3)).trans s4
        · refine s4 _ _ ?_
          rw [msk_at (by simpa using nma)]
          exact s3 _ _ hm1
      rintro σ H2 ⟨r2, v2, rfl, s2, e2, hp2, hm2⟩
      refine ⟨_, rfl, m, _, 1, .int (PP.ver + 1 : Nat), rfl, rfl, SqT.of hm2, rfl, ?_⟩
      refine ⟨_, rfl, a, c.pr, r2.dx, _, rfl, hp2.ins, T.cl_pr, T.n_pr_own_version, by show 8 < 1000; decide, ?_⟩
      have hp3 := hp2.set (r' := r2) (P' := psRecv PP (.chg D)) rfl rfl rfl rfl hp2.base hp2.own hp2.sent hp2.wait
      exact q _ r2 (same_a s2) (.inr e2) hp3
/- Program.__init__: 0 self, 1 name, 2 kind, 3 text, 4 version -/
theorem sc_Program_init : FnScope ["self", "name", "kind", "text", "version"] ["self", "name", "kind", "text", "version"] (defScope s_Program_init) := ⟨rfl, rfl, rfl, by decide +kernel, rfl, by decide +kernel, by decide +kernel⟩
theorem bi_Program_init : BindsB "__init__" "Program.__init__" s_Program_init ["self", "name", "kind", "text", "version"] := fun _ _ _ _ _ _ us hl => match us, hl with | [_, _, _, _, _], _ => rfl
def psNew (v : Nat) (t : List Int) : PS := ⟨v, t, t, none, none, []⟩
def spPrInit (c : Cs) : Sp := fun vs H Q _ => ∃ a dx x M nm k v t, vs = [.ref a, .str nm, .str k.s, .ref x, .int (v : Nat)] ∧ H a = some (.ins c.pr dx []) ∧ NmOk nm ∧ TextAt c (Msk H (a :: M)) x t ∧ v ≤ 1000 ∧ (∀ m ∈ M, H m ≠ none) ∧
  ∀ H' r', Same (Msk H [a]) H' → H r'.bl = none → PrAt c H' (r'.bl :: a :: M) a nm k (psNew v t) r' → Q .non H'
theorem ok_Program_init (T : Txt K mg c) (G_is_name : GF P w K mg base 1 "is_name" ["value"] spIsName) (G_need_kind : GF P w K mg base 2 "need_kind" ["value"] spNeedKind) (G_need_text : GF P w K mg base 1 "need_text" ["value"] (spNeedText c)) (G_is_integer : GF P w K mg base 1 "is_integer" ["value", "low", "high"] spIsInteger) : KF P w K mg base 3 "Program" c.pr ["self", "name", "kind", "text", "version"] (spPrInit c) := by
  refine T.d_Program_init.kf sc_Program_init bi_Program_init (fun vs H Q E h => ?_) (fun f cdv A outer s H vs Q E hr h => ?_)
  · obtain ⟨a, dx, x, M, nm, k, v, t, rfl, _⟩ := h
    rfl
  · obtain ⟨a, dx, x, M, nm, k, v, t, rfl, ha, hnm, hx, hv, live, q⟩ := h
    refine ⟨_, (pss_cons (ps_if (pt_not (pt_val (pe_gf G_is_name hr (pa_cons (pv 1) pa_nil)))) (pss_one ps_never) pss_nil)
      (pss_cons (ps_expr (pe_gf G_need_kind hr (pa_cons (pv 2) pa_nil)))
      (pss_cons (ps_expr (pe_gf G_need_text hr (pa_cons (pv 3) pa_nil)))
      (pss_cons (ps_if (pt_not (pt_val (pe_gf G_is_integer hr (pa_cons (pv 4) (pa_cons pe_int (pa_cons (pe_globE T.i_MAX_VERSION) pa_nil)))))) (pss_one ps_never) pss_nil)
      (pss_cons (ps_asg (pe_tup (pa_cons (pv 1) (pa_cons (pv 2) (pa_cons (pv 4) pa_nil)))) (pg_tup rfl (pgs_cons (pg_fld (pv 0)) (pgs_cons (pg_fld (pv 0)) (pgs_cons (pg_fld (pv 0)) pgs_nil)))))
      (pss_cons (ps_asg (pe_tup (pa_cons (pv 3) (pa_cons (pv 3) pa_nil))) (pg_tup rfl (pgs_cons (pg_fld (pv 0)) (pgs_cons (pg_fld (pv 0)) pgs_nil))))
      (pss_cons (ps_asg (pe_tup (pa_cons pe_non (pa_cons pe_non pa_nil))) (pg_tup rfl (pgs_cons (pg_fld (pv 0)) (pgs_cons (pg_fld (pv 0)) pgs_nil))))
      (pss_one (ps_fld (pv 0) (pe_lst pa_nil) rfl))))))))), ?_⟩
    have hxi := hx.mono msk_same
    refine seq_join (fun σ H1 => σ = [some (.ref a), some (.str nm), some (.str k.s), some (.ref x), some (.int (v : Nat))] ∧ H1 = H) (fun N hN => ⟨_, rfl, nm, rfl, hnm, true, rfl, iteF (hN _ _ ⟨rfl, rfl⟩)⟩) ?_
    rintro σ H1 ⟨rfl, rfl⟩
    refine seq_join (fun σ H2 => σ = [some (.ref a), some (.str nm), some (.str k.s), some (.ref x), some (.int (v : Nat))] ∧ H2 = H1) (fun N hN => ⟨_, rfl, k, rfl, hN _ _ ⟨rfl, rfl⟩⟩) ?_
    rintro σ H2 ⟨rfl, rfl⟩
    refine seq_join (fun σ H3 => σ = [some (.ref a), some (.str nm), some (.str k.s), some (.ref x), some (.int (v : Nat))] ∧ H3 = H2) (fun N hN => ⟨_, rfl, x, t, rfl, hxi, hN _ _ ⟨rfl, rfl⟩⟩) ?_
    rintro σ H3 ⟨rfl, rfl⟩
    refine seq_join (fun σ H4 => σ = [some (.ref a), some (.str nm), some (.str k.s), some (.ref x), some (.int (v : Nat))] ∧ H4 = H3) (fun N hN => ?_) ?_
    · refine ⟨_, rfl, _, _, _, rfl, _, rfl, ?_⟩
      rw [decide_eq_true (show (0 : Int) ≤ ((v : Nat) : Int) ∧ ((v : Nat) : Int) ≤ 1000 by omega)]
      exact iteF (hN _ _ ⟨rfl, rfl⟩)
    rintro σ H4 ⟨rfl, rfl⟩
    refine ⟨_, rfl, _, rfl, _, rfl, lk 3 (by decide), fun t1 ht1 => ⟨t1, _, rfl, SqT.of upd_same, rfl, _, _, rfl, ?_⟩⟩
    have s1 := same_upd (o := .tup [.str nm, .str k.s, .int (v : Nat)]) ht1
    refine ⟨_, rfl, a, c.pr, dx, [], rfl, s1 _ _ ha, T.cl_pr, T.n_pr_own_name, by show 0 < 1000; decide, ?_⟩
    refine ⟨_, _, rfl, _, rfl, a, c.pr, dx, _, rfl, upd_same, T.cl_pr, T.n_pr_own_kind, by show 1 < 1000; decide, ?_⟩
    rw [upd_upd]
    refine ⟨_, _, rfl, _, rfl, a, c.pr, dx, _, rfl, upd_same, T.cl_pr, T.n_pr_own_version, by show 2 < 1000; decide, rfl, ?_⟩
    rw [upd_upd]
    have sa1 : ∀ u, Same (Msk H4 [a]) (upd (upd H4 t1 (.tup [.str nm, .str k.s, .int (v : Nat)])) a u) := fun u => same_a (msk_same.trans s1)
    refine ⟨_, rfl, _, rfl, lk 2 (by decide), fun t2 ht2 => ⟨t2, _, rfl, SqT.of upd_same, rfl, _, _, rfl, ?_⟩⟩
    refine ⟨_, rfl, a, c.pr, dx, _, rfl, (same_upd ht2) _ _ upd_same, T.cl_pr, T.n_pr_base_text, by show 3 < 1000; decide, ?_⟩
    refine ⟨_, _, rfl, _, rfl, a, c.pr, dx, _, rfl, upd_same, T.cl_pr, T.n_pr_own_text, by show 4 < 1000; decide, rfl, ?_⟩
    rw [upd_upd]
    have sa2 : ∀ u, Same (Msk H4 [a]) (upd (upd (upd (upd H4 t1 (.tup [.str nm, .str k.s, .int (v : Nat)])) a (.ins c.pr dx (putF "own_version" (.int (v : Nat)) (putF "own_kind" (.str k.s) (putF "own_name" (.str nm) []))))) t2 (.tup [.ref x, .ref x])) a u) := fun u => same_a ((sa1 _).trans (same_upd ht2))
    refine ⟨lk 2 (by decide), fun t3 ht3 => ⟨t3, _, rfl, SqT.of upd_same, rfl, _, _, rfl, ?_⟩⟩
    refine ⟨_, rfl, a, c.pr, dx, _, rfl, (same_upd ht3) _ _ upd_same, T.cl_pr, T.n_pr_sent, by show 5 < 1000; decide, ?_⟩
    refine ⟨_, _, rfl, _, rfl, a, c.pr, dx, _, rfl, upd_same, T.cl_pr, T.n_pr_waiting, by show 6 < 1000; decide, rfl, ?_⟩
    rw [upd_upd]
    refine ⟨lk 0 (by decide), fun bl hbl => ?_⟩
    refine ⟨_, rfl, a, c.pr, dx, _, rfl, (same_upd hbl) _ _ upd_same, T.cl_pr, T.n_pr_backs, by show 7 < 1000; decide, ?_⟩
    have nab : a ≠ bl := ne_of_none (by exact upd_same) hbl
    have s3 := fun u => same_a (o := u) ((sa2 (.ins c.pr dx (putF "own_text" (.ref x) (putF "base_text" (.ref x) (putF "own_version" (.int (v : Nat)) (putF "own_kind" (.str k.s) (putF "own_name" (.str nm) []))))))).trans (same_upd (o := .tup [.non, .non]) ht3))
    have nHb : H4 bl = none := by
      have := (s3 (.ins c.pr dx (putF "waiting" .non (putF "sent" .non (putF "own_text" (.ref x) (putF "base_text" (.ref x) (putF "own_version" (.int (v : Nat)) (putF "own_kind" (.str k.s) (putF "own_name" (.str nm) []))))))))).free hbl
      rw [msk_at (by simpa using nab.symm)] at this
      exact this
    have sF := fun u => same_a (o := u) ((s3 (.ins c.pr dx (putF "waiting" .non (putF "sent" .non (putF "own_text" (.ref x) (putF "base_text" (.ref x) (putF "own_version" (.int (v : Nat)) (putF "own_kind" (.str k.s) (putF "own_name" (.str nm) []))))))))).trans (same_upd (o := .lst []) hbl))
    refine q _ ⟨dx, x, x, .non, .non, bl, []⟩ (sF _) nHb ?_
    have hbF : ∀ u, (upd (upd (upd (upd (upd (upd (upd (upd H4 t1 (.tup [.str nm, .str k.s, .int (v : Nat)])) a (.ins c.pr dx (putF "own_version" (.int (v : Nat)) (putF "own_kind" (.str k.s) (putF "own_name" (.str nm) []))))) t2 (.tup [.ref x, .ref x])) a (.ins c.pr dx (putF "own_text" (.ref x) (putF "base_text" (.ref x) (putF "own_version" (.int (v : Nat)) (putF "own_kind" (.str k.s) (putF "own_name" (.str nm) []))))))) t3 (.tup [.non, .non])) a (.ins c.pr dx (putF "waiting" .non (putF "sent" .non (putF "own_text" (.ref x) (putF "base_text" (.ref x) (putF "own_version" (.int (v : Nat)) (putF "own_kind" (.str k.s) (putF "own_name" (.str nm) []))))))))) bl (.lst [])) a u) bl = some (.lst []) := fun u => by
      rw [upd_ne nab.symm, upd_same]
    have hx2 : ∀ H5, Same (Msk H4 [a]) H5 → TextAt c (Msk H5 (bl :: a :: M)) x t := fun H5 s5 => hx.mono fun b u e => by
      have nb : b ∉ a :: M := fun z => by rw [msk_in z] at e; cases e
      rw [msk_at nb] at e
      have nb2 : b ≠ bl := ne_of_none e nHb
      rw [msk_at (fun z => (List.mem_cons.mp z).elim nb2 nb)]
      refine s5 _ _ ?_
      rw [msk_at (by intro z; exact nb (by rw [List.mem_singleton.mp z]; exact List.mem_cons_self ..))]
      exact e
    refine ⟨by simp, by simp, fun m hm => ?_, upd_same, hx2 _ (sF _), hx2 _ (sF _), rfl, rfl, hbF _, .nil⟩
    rcases List.mem_cons.mp hm with z | z
    · rw [z]
      exact fun y => by rw [hbF] at y; cases y
    · rcases List.mem_cons.mp z with z | z
      · rw [z, upd_same]
        intro y; cases y
      · by_cases e : m = a
        · rw [e, upd_same]
          intro y; cases y
        · refine dom_same (sF _) m ?_
          rw [msk_at (by simpa using e)]
          exact live m z
end
end Tc
/-! # The walks: the server -/
namespace Tc
open PySem PySem.Spec PyProof.Rows L2
section
variable {P : Program} {w : World} {K : PySem.W.Frag} {mg : Str → Option Value} {base : Heap} {x m qual : Str} {st : Stmt} {N ps : List Str} {k : Nat} {sp : Sp} {C : Addr} {dv : V}
/-- a method with one default, that no call gives | that every call gives -/
theorem DM.mf1 (D : DM K C m qual st [dv]) (S : FnScope N ps (defScope st)) (n : Nat) (hn : n + 1 = ps.length)
    (b : ∀ (T : Addr) (kV doc pm : Value) (an : Option Addr) (cdv ct : Value) (us its : List Value), us.length = n → its.length = 1 → ∃ k, bindArgs (PySem.W.fnOf m qual (defArgs st) (defBody st) (defScope st) (.ref T) kV doc pm an cdv ct) ⟨us, []⟩ = seqItems? (.ref T) >>= k ∧ k (some its.toArray) = pure (ps.zip (us ++ its)))
    (len : ∀ vs H Q E, sp vs H Q E → vs.length = ps.length) (hb : Body P w K mg base k N qual st sp) : MF P w K mg base (k + 1) C m ps [dv] sp := by
  obtain ⟨f, fd, F, hm⟩ := D.ex
  obtain ⟨ds, h1, h2⟩ := F.binds1 n 0 (by intro z; cases z) (by simpa using hn) b
  exact ⟨f, fd, ds, F.okB S len hb, hm, h2, h1⟩
theorem DM.mfa (D : DM K C m qual st [dv]) (S : FnScope N ps (defScope st))
    (b : ∀ (T : Addr) (kV doc pm : Value) (an : Option Addr) (cdv ct : Value) (us its : List Value), us.length = ps.length → its.length = 1 → ∃ k, bindArgs (PySem.W.fnOf m qual (defArgs st) (defBody st) (defScope st) (.ref T) kV doc pm an cdv ct) ⟨us, []⟩ = seqItems? (.ref T) >>= k ∧ k (some its.toArray) = pure (ps.zip (us ++ its.drop 1)))
    (len : ∀ vs H Q E, sp vs H Q E → vs.length = ps.length) (hb : Body P w K mg base k N qual st sp) : MF P w K mg base (k + 1) C m ps [] sp := by
  obtain ⟨f, fd, F, hm⟩ := D.ex
  obtain ⟨ds, h1, h2⟩ := F.binds1 ps.length 1 (by intro z; cases z) rfl b
  exact ⟨f, fd, ds, F.okB S len hb, hm, h2, h1⟩
end
structure SV where
  texts : List (List Int)
  deltas : List Dl
  auth : List Nat
structure SRec where
  dx : Addr
  tl : Addr
  dl : Addr
  al : Addr
  kd : Addr
  sp : Addr
  ts : List Addr
  ds : List Addr
  au : List V
def seF (r : SRec) : List (Str × V) := [("texts", .ref r.tl), ("deltas", .ref r.dl), ("authors", .ref r.al), ("kinds", .ref r.kd), ("spots", .ref r.sp)]
def kvOf (ks : List (Str × Kd)) : List (Key × V) := ks.map fun p => (.inr p.1, .str p.2.s)
structure SvAt (c : Cs) (H : Hp) (M : List Addr) (s : Addr) (ks : List (Str × Kd)) (S : SV) (r : SRec) : Prop where
  sM : s ∈ M
  tM : r.tl ∈ M
  dM : r.dl ∈ M
  aM : r.al ∈ M
  kM : r.kd ∈ M
  pM : r.sp ∈ M
  td : r.tl ≠ r.dl
  ta : r.tl ≠ r.al
  da : r.dl ≠ r.al
  kp : r.kd ≠ r.sp
  live : ∀ m ∈ M, H m ≠ none
  ins : H s = some (.ins c.se r.dx (seF r))
  tls : H r.tl = some (.lst (r.ts.map V.ref))
  tx : Paired (TextAt c (Msk H M)) r.ts S.texts
  dls : H r.dl = some (.lst (r.ds.map V.ref))
  dx_ : Paired (DelAt c (Msk H M)) r.ds S.deltas
  als : H r.al = some (.lst r.au)
  aul : r.au.length ≤ S.deltas.length
  kds : Rd H r.kd (.dK (kvOf ks))
  sps : H r.sp = some (.dK [])
theorem rd_same {H H' : Hp} {a : Addr} {u : HO} (s : Same H H') (h : Rd H a u) : Rd H' a u := h.elim (fun z => .inl (s _ _ z)) fun ⟨o, z⟩ => .inr ⟨o, s _ _ z⟩
theorem SvAt.grow {c : Cs} {H H1 : Hp} {M : List Addr} {s : Addr} {ks : List (Str × Kd)} {S : SV} {r : SRec} (h : SvAt c H M s ks S r) (g : Same H H1) : SvAt c H1 M s ks S r :=
  ⟨h.sM, h.tM, h.dM, h.aM, h.kM, h.pM, h.td, h.ta, h.da, h.kp, fun m hm => dom_same g m (h.live m hm), g _ _ h.ins, g _ _ h.tls, pr_imp (fun _ _ z => z.mono (msk_mono g)) h.tx, g _ _ h.dls, pr_imp (fun _ _ z => z.mono (msk_mono g)) h.dx_, g _ _ h.als, h.aul, rd_same g h.kds, g _ _ h.sps⟩
def kOf (ks : List (Str × Kd)) (nm : Str) : Option V := valV (kvOf ks) (.inr nm)
structure SvOk (S : SV) : Prop where
  n : S.texts.length = S.deltas.length + 1
  m : S.deltas.length ≤ 20
  t : ∀ t ∈ S.texts, TOk t
  d : ∀ i D, S.deltas[i]? = some D → D.ds.length = (S.texts.getD i []).length ∧ aft D = (S.texts.getD (i + 1) []).length ∧ DOk D
section
variable {P : Program} {w : World} {K : PySem.W.Frag} {mg : Str → Option Value} {base : Heap} {c : Cs}
/- Server.need_version: 0 self, 1 version, 2 most -/
theorem sc_Server_need_version : FnScope ["self", "version", "most"] ["self", "version", "most"] (defScope s_Server_need_version) := ⟨rfl, rfl, rfl, by decide +kernel, rfl, by decide +kernel, by decide +kernel⟩
theorem bi_Server_need_version : BindsB "need_version" "Server.need_version" s_Server_need_version ["self", "version", "most"] := fun _ _ _ _ _ _ us hl => match us, hl with | [_, _, _], _ => rfl
def spSvNeed : Sp := fun vs H Q _ => ∃ (s : V) (v m : Nat), vs = [s, .int v, .int m] ∧ v ≤ m ∧ Q .non H
theorem ok_Server_need_version (T : Txt K mg c) (G_is_integer : GF P w K mg base 1 "is_integer" ["value", "low", "high"] spIsInteger) : MF P w K mg base 2 c.se "need_version" ["self", "version", "most"] [] spSvNeed := by
  refine T.d_Server_need_version.mf sc_Server_need_version bi_Server_need_version (fun vs H Q E h => ?_) (fun f cdv A outer s H vs Q E hr h => ?_)
  · obtain ⟨s, v, m, rfl, _⟩ := h
    rfl
  · obtain ⟨s, v, m, rfl, hv, q⟩ := h
    refine ⟨_, (pss_one (ps_if (pt_not (pt_val (pe_gf G_is_integer hr (pa_cons (pv 1) (pa_cons pe_int (pa_cons (pv 2) pa_nil)))))) (pss_one ps_never) pss_nil)), ?_⟩
    refine ⟨_, rfl, _, rfl, _, _, _, rfl, _, rfl, ?_⟩
    rw [decide_eq_true (show (0 : Int) ≤ (v : Int) ∧ (v : Int) ≤ (m : Int) by omega)]
    exact iteF q
/- Server.text: 0 self, 1 version -/
theorem sc_Server_text : FnScope ["self", "version"] ["self", "version"] (defScope s_Server_text) := ⟨rfl, rfl, rfl, by decide +kernel, rfl, by decide +kernel, by decide +kernel⟩
def spSvText (c : Cs) : Sp := fun vs H Q _ => ∃ s M ks S r x, vs = [.ref s, .non] ∧ SvAt c H M s ks S r ∧ r.ts[r.ts.length - 1]? = some x ∧ Q (.ref x) H
theorem body_Server_text (T : Txt K mg c) (G_Server_need_version : MF P w K mg base 2 c.se "need_version" ["self", "version", "most"] [] spSvNeed) : Body P w K mg base 2 ["self", "version"] "Server.text" s_Server_text (spSvText c) := fun f cdv A outer s H vs Q E hr h => by
  obtain ⟨sv, M, ks, S, r, x, rfl, hs, hx, q⟩ := h
  refine ⟨_, (pss_cons (ps_if (pt_cmpR op_isN (pv 1) pe_non (nomark _)) (pss_one (ps_ret (pe_ix ix_list (pe_fld (pv 0) rfl) (pe_un un_neg pe_int) (fun _ _ => rfl)))) pss_nil)
      (pss_cons (ps_expr (pe_mf G_Server_need_version T.cl_se hr (pv 0) (pa_cons (pv 1) (pa_cons (pe_callB call_len_seq (by rfl) T.z_len (by decide +kernel) (pa_cons (pe_fld (pv 0) rfl) pa_nil)) pa_nil))))
      (pss_one (ps_ret (pe_ix ix_list (pe_fld (pv 0) rfl) (pe_callTy call_int1 (by rfl) T.z_int (by decide +kernel) (pa_cons (pv 1) pa_nil)) (fun _ _ => rfl)))))), ?_⟩
  refine ⟨_, rfl, rfl, _, rfl, ?_⟩
  rw [decide_eq_true (show V.non = V.non from rfl)]
  refine iteT ⟨_, rfl, sv, c.se, r.dx, _, .ref r.tl, rfl, hs.ins, T.cl_se, T.n_se_texts, rfl, _, rfl, r.tl, _, -1, .ref x, rfl, rfl, SqL.of hs.tls, atI_neg1 ?_, q⟩
  rw [List.length_map, List.getElem?_map, hx]
  rfl
theorem ok_Server_text0 (T : Txt K mg c) (G_Server_need_version : MF P w K mg base 2 c.se "need_version" ["self", "version", "most"] [] spSvNeed) : MF P w K mg base 3 c.se "text" ["self", "version"] [.non] (spSvText c) := by
  refine T.d_Server_text.mf1 sc_Server_text 1 rfl (fun _ _ _ _ _ _ _ us its h1 h2 => match us, its, h1, h2 with | [_], [_], _, _ => ⟨_, rfl, rfl⟩) (fun vs H Q E h => ?_) (body_Server_text T G_Server_need_version)
  obtain ⟨s, M, ks, S, r, x, rfl, _⟩ := h
  rfl
theorem ok_Server_text (T : Txt K mg c) (G_Server_need_version : MF P w K mg base 2 c.se "need_version" ["self", "version", "most"] [] spSvNeed) : MF P w K mg base 3 c.se "text" ["self", "version"] [] (spSvText c) := by
  refine T.d_Server_text.mfa sc_Server_text (fun _ _ _ _ _ _ _ us its h1 h2 => match us, its, h1, h2 with | [_, _], [_], _, _ => ⟨_, rfl, rfl⟩) (fun vs H Q E h => ?_) (body_Server_text T G_Server_need_version)
  obtain ⟨s, M, ks, S, r, x, rfl, _⟩ := h
  rfl
/- Server.kind_of: 0 self, 1 name -/
theorem sc_Server_kind_of : FnScope ["self", "name"] ["self", "name"] (defScope s_Server_kind_of) := ⟨rfl, rfl, rfl, by decide +kernel, rfl, by decide +kernel, by decide +kernel⟩
theorem bi_Server_kind_of : BindsB "kind_of" "Server.kind_of" s_Server_kind_of ["self", "name"] := fun _ _ _ _ _ _ us hl => match us, hl with | [_, _], _ => rfl
def spSvKind (c : Cs) : Sp := fun vs H Q _ => ∃ (s : Addr) (M : List Addr) (ks : List (Str × Kd)) (S : SV) (r : SRec) (nm : Str) (k : Kd), vs = [.ref s, .str nm] ∧ SvAt c H M s ks S r ∧ NmOk nm ∧ kOf ks nm = some (.str k.s) ∧ Q (.str k.s) H
theorem ok_Server_kind_of (T : Txt K mg c) (G_is_name : GF P w K mg base 1 "is_name" ["value"] spIsName) : MF P w K mg base 2 c.se "kind_of" ["self", "name"] [] (spSvKind c) := by
  refine T.d_Server_kind_of.mf sc_Server_kind_of bi_Server_kind_of (fun vs H Q E h => ?_) (fun f cdv A outer s H vs Q E hr h => ?_)
  · obtain ⟨s, M, ks, S, r, nm, k, rfl, _⟩ := h
    rfl
  · obtain ⟨sv, M, ks, S, r, nm, k, rfl, hs, hnm, hk, q⟩ := h
    refine ⟨_, (pss_cons (ps_if (PW.pt (pw_or (pt_not (pt_val (pe_gf G_is_name hr (pa_cons (pv 1) pa_nil)))) (pw_or1 (pt_cmp (pc_dnotin (hu1 hr) (pv 1) (pe_fld (pv 0) rfl)))))) (pss_one ps_never) pss_nil)
      (pss_one (ps_ret (pe_dget (hu1 hr) (pe_fld (pv 0) rfl) (pv 1) (fun _ _ => rfl))))), ?_⟩
    have hg : DGet H r.kd (.str nm) (some (.str k.s)) := .inl ⟨kvOf ks, .inr nm, hs.kds, rfl, hk.symm⟩
    refine ⟨_, rfl, nm, rfl, hnm, true, rfl, iteF ?_⟩
    refine ⟨_, rfl, _, rfl, sv, c.se, r.dx, _, .ref r.kd, rfl, hs.ins, T.cl_se, T.n_se_kinds, rfl, r.kd, _, rfl, hg, false, rfl, iteF ?_⟩
    exact ⟨_, rfl, sv, c.se, r.dx, _, .ref r.kd, rfl, hs.ins, T.cl_se, T.n_se_kinds, rfl, _, rfl, r.kd, _, rfl, hg, q⟩
/- Server.message: 0 self, 1 name, 2 version, 3 kind -/
theorem sc_Server_message : FnScope ["self", "name", "version", "kind"] ["self", "name", "version"] (defScope s_Server_message) := ⟨rfl, rfl, rfl, by decide +kernel, rfl, by decide +kernel, by decide +kernel⟩
theorem bi_Server_message : BindsB "message" "Server.message" s_Server_message ["self", "name", "version"] := fun _ _ _ _ _ _ us hl => match us, hl with | [_, _, _], _ => rfl
def spSvMsg (c : Cs) : Sp := fun vs H Q _ => ∃ (s : Addr) (M : List Addr) (ks : List (Str × Kd)) (S : SV) (r : SRec) (nm : Str) (k : Kd) (v : Nat) (D : Dl) (t : List Int), vs = [.ref s, .str nm, .int v] ∧ SvAt c H M s ks S r ∧ kOf ks nm = some (.str k.s) ∧ S.deltas[v]? = some D ∧ S.texts[v]? = some t ∧ t.length = D.ds.length ∧ t.length ≤ 1000 ∧
  ∀ H' m, Same H H' → DnAt c (Fr H H') k (v + 1) t m (.chg D) → Q (.ref m) H'
theorem ok_Server_message (T : Txt K mg c) (G_counted : GF P w K mg base 4 "counted" ["delta", "text", "kind"] (spCounted c)) : MF P w K mg base 5 c.se "message" ["self", "name", "version"] [] (spSvMsg c) := by
  refine T.d_Server_message.mf sc_Server_message bi_Server_message (fun vs H Q E h => ?_) (fun f cdv A outer s H vs Q E hr h => ?_)
  · obtain ⟨s, M, ks, S, r, nm, k, v, D, t, rfl, _⟩ := h
    rfl
  · obtain ⟨sv, M, ks, S, r, nm, k, v, D, t, rfl, hs, hk, hD, ht, hl, hsz, q⟩ := h
    refine ⟨_, (pss_cons (ps_set (i := 3) sc_Server_message.nd rfl (Or.inl rfl) (pe_dget (hu1 hr) (pe_fld (pv 0) rfl) (pv 1) (fun _ _ => rfl)))
      (pss_one (ps_ret (pe_tup (pa_cons (pe_globE T.s_CHANGE_server) (pa_cons (pe_op op_add (pv 2) pe_int) (pa_cons (pe_gf G_counted hr (pa_cons (pe_ix ix_list (pe_fld (pv 0) rfl) (pv 2) (fun _ _ => rfl)) (pa_cons (pe_ix ix_list (pe_fld (pv 0) rfl) (pv 2) (fun _ _ => rfl)) (pa_cons (pv 3) pa_nil)))) pa_nil))))))), ?_⟩
    have hg : DGet H r.kd (.str nm) (some (.str k.s)) := .inl ⟨kvOf ks, .inr nm, hs.kds, rfl, hk.symm⟩
    obtain ⟨pd, hpd, hDd⟩ := pr_at hs.dx_ hD
    obtain ⟨pt, hpt, hTt⟩ := pr_at hs.tx ht
    refine ⟨_, rfl, sv, c.se, r.dx, _, .ref r.kd, rfl, hs.ins, T.cl_se, T.n_se_kinds, rfl, _, rfl, r.kd, _, rfl, hg, ?_⟩
    refine ⟨_, rfl, _, _, rfl, rfl, ?_⟩
    refine ⟨_, rfl, sv, c.se, r.dx, _, .ref r.dl, rfl, hs.ins, T.cl_se, T.n_se_deltas, rfl, _, rfl, r.dl, _, (v : Int), .ref pd, rfl, rfl, SqL.of hs.dls, atI_of (by rw [List.getElem?_map, hpd]; rfl), ?_⟩
    refine ⟨_, rfl, sv, c.se, r.dx, _, .ref r.tl, rfl, hs.ins, T.cl_se, T.n_se_texts, rfl, _, rfl, r.tl, _, (v : Int), .ref pt, rfl, rfl, SqL.of hs.tls, atI_of (by rw [List.getElem?_map, hpt]; rfl), ?_⟩
    refine ⟨_, rfl, pd, pt, D, t, k, rfl, hDd.mono msk_same, hTt.mono msk_same, hl, hsz, fun H1 rr rs s1 hrr hgr hrl => ⟨lk 3 (by decide), fun m hm => ?_⟩⟩
    have hm1 := same_upd (H := H1) (o := .tup [.str "change", .int ((v : Int) + 1), .ref rr]) hm
    refine q _ m (s1.trans hm1) ⟨rr, rs, ?_, hrr.mono (fr_next hm1), hgr, hrl, hl⟩
    unfold Fr
    rw [if_pos (s1.free hm), upd_same]
    rfl
/- Server.join: 0 self, 1 name, 2 kind -/
theorem sc_Server_join : FnScope ["self", "name", "kind"] ["self", "name", "kind"] (defScope s_Server_join) := ⟨rfl, rfl, rfl, by decide +kernel, rfl, by decide +kernel, by decide +kernel⟩
theorem bi_Server_join : BindsB "join" "Server.join" s_Server_join ["self", "name", "kind"] := fun _ _ _ _ _ _ us hl => match us, hl with | [_, _, _], _ => rfl
theorem kOf_put {ks : List (Str × Kd)} {nm : Str} {k : Kd} (h : kOf ks nm = none) : putK (kvOf ks) (.inr nm) (.str k.s) = kvOf (ks ++ [(nm, k)]) := by
  unfold putK
  rw [if_neg]
  · unfold kvOf
    rw [List.map_append]
    rfl
  · intro z
    obtain ⟨kv, hkv, e⟩ := List.any_eq_true.mp z
    unfold kOf valV at h
    rw [Option.map_eq_none_iff, List.find?_eq_none] at h
    exact h kv hkv e
theorem SvAt.setk {c : Cs} {H : Hp} {M : List Addr} {s : Addr} {ks ks' : List (Str × Kd)} {S : SV} {r : SRec} (h : SvAt c H M s ks S r) (hk : H r.kd = some (.dK (kvOf ks))) : SvAt c (upd H r.kd (.dK (kvOf ks'))) M s ks' S r := by
  have em : Msk (upd H r.kd (.dK (kvOf ks'))) M = Msk H M := msk_mut h.kM
  have n1 : s ≠ r.kd := fun z => by have := h.ins; rw [z, hk] at this; cases this
  have n2 : r.tl ≠ r.kd := fun z => by have := h.tls; rw [z, hk] at this; cases this
  have n3 : r.dl ≠ r.kd := fun z => by have := h.dls; rw [z, hk] at this; cases this
  have n4 : r.al ≠ r.kd := fun z => by have := h.als; rw [z, hk] at this; cases this
  exact ⟨h.sM, h.tM, h.dM, h.aM, h.kM, h.pM, h.td, h.ta, h.da, h.kp, fun m hm => dom_upd m (h.live m hm), by rw [upd_ne n1]; exact h.ins, by rw [upd_ne n2]; exact h.tls, by rw [em]; exact h.tx, by rw [upd_ne n3]; exact h.dls, by rw [em]; exact h.dx_, by rw [upd_ne n4]; exact h.als, h.aul, .inl upd_same, by rw [upd_ne h.kp.symm]; exact h.sps⟩
def spSvJoin (c : Cs) : Sp := fun vs H Q _ => ∃ (s : Addr) (M : List Addr) (ks : List (Str × Kd)) (S : SV) (r : SRec) (nm : Str) (k : Kd), vs = [.ref s, .str nm, .str k.s] ∧ SvAt c H M s ks S r ∧ H r.kd = some (.dK (kvOf ks)) ∧ NmOk nm ∧ kOf ks nm = none ∧ ks.length ≤ 100 ∧
  Q (.int S.deltas.length) (upd H r.kd (.dK (kvOf (ks ++ [(nm, k)]))))
theorem ok_Server_join (T : Txt K mg c) (G_is_name : GF P w K mg base 1 "is_name" ["value"] spIsName) (G_need_kind : GF P w K mg base 2 "need_kind" ["value"] spNeedKind) : MF P w K mg base 3 c.se "join" ["self", "name", "kind"] [] (spSvJoin c) := by
  refine T.d_Server_join.mf sc_Server_join bi_Server_join (fun vs H Q E h => ?_) (fun f cdv A outer s H vs Q E hr h => ?_)
  · obtain ⟨s, M, ks, S, r, nm, k, rfl, _⟩ := h
    rfl
  · obtain ⟨sv, M, ks, S, r, nm, k, rfl, hs, hkd, hnm, hk, hkl, q⟩ := h
    refine ⟨_, (pss_cons (ps_if (pt_not (pt_val (pe_gf G_is_name hr (pa_cons (pv 1) pa_nil)))) (pss_one ps_never) pss_nil)
      (pss_cons (ps_if (pt_cmp (pc_din (hu1 hr) (pv 1) (pe_fld (pv 0) rfl))) (pss_one ps_never) pss_nil)
      (pss_cons (ps_expr (pe_gf G_need_kind hr (pa_cons (pv 2) pa_nil)))
      (pss_cons (ps_dput (hu1 hr) (pe_fld (pv 0) rfl) (pv 1) (pv 2) (by rfl))
      (pss_one (ps_ret (pe_callB call_len_seq (by rfl) T.z_len (by decide +kernel) (pa_cons (pe_fld (pv 0) rfl) pa_nil)))))))), ?_⟩
    have hg : DGet H r.kd (.str nm) none := .inl ⟨kvOf ks, .inr nm, hs.kds, rfl, hk.symm⟩
    refine ⟨_, rfl, nm, rfl, hnm, true, rfl, iteF ?_⟩
    refine ⟨_, rfl, _, rfl, sv, c.se, r.dx, _, .ref r.kd, rfl, hs.ins, T.cl_se, T.n_se_kinds, rfl, r.kd, _, rfl, hg, false, rfl, iteF ?_⟩
    refine ⟨_, rfl, k, rfl, ?_⟩
    have hp := DPut.k (H := H) (a := r.kd) (k := .inr nm) (v := .str k.s) hkd (szlt _ (by simp [kvOf]; omega))
    rw [kOf_put hk] at hp
    refine ⟨_, rfl, _, rfl, sv, c.se, r.dx, _, .ref r.kd, rfl, hs.ins, T.cl_se, T.n_se_kinds, rfl, _, rfl, r.kd, _, rfl, hp, ?_⟩
    have hs2 := hs.setk (ks' := ks ++ [(nm, k)]) hkd
    refine ⟨_, rfl, sv, c.se, r.dx, _, .ref r.dl, rfl, hs2.ins, T.cl_se, T.n_se_deltas, rfl, r.dl, _, rfl, .inl (SqL.of hs2.dls), ?_⟩
    rw [List.length_map, pr_len hs.dx_]
    exact q
/- Server.__init__: 0 self, 1 text -/
theorem sc_Server_init : FnScope ["self", "text"] ["self", "text"] (defScope s_Server_init) := ⟨rfl, rfl, rfl, by decide +kernel, rfl, by decide +kernel, by decide +kernel⟩
theorem bi_Server_init : BindsB "__init__" "Server.__init__" s_Server_init ["self", "text"] := fun _ _ _ _ _ _ us hl => match us, hl with | [_, _], _ => rfl
def spSvInit (c : Cs) : Sp := fun vs H Q _ => ∃ (s dx x : Addr) (M : List Addr) (t : List Int), vs = [.ref s, .ref x] ∧ H s = some (.ins c.se dx []) ∧ TextAt c (Msk H (s :: M)) x t ∧ (∀ m ∈ M, H m ≠ none) ∧
  ∀ H' r', Same (Msk H [s]) H' → (∀ y ∈ [r'.tl, r'.dl, r'.al, r'.kd, r'.sp], H y = none) → SvAt c H' (r'.tl :: r'.dl :: r'.al :: r'.kd :: r'.sp :: s :: M) s [] ⟨[t], [], []⟩ r' → H' r'.kd = some (.dK []) → Q .non H'
theorem ok_Server_init (T : Txt K mg c) (G_need_text : GF P w K mg base 1 "need_text" ["value"] (spNeedText c)) : KF P w K mg base 2 "Server" c.se ["self", "text"] (spSvInit c) := by
  refine T.d_Server_init.kf sc_Server_init bi_Server_init (fun vs H Q E h => ?_) (fun f cdv A outer s H vs Q E hr h => ?_)
  · obtain ⟨s, dx, x, M, t, rfl, _⟩ := h
    rfl
  · obtain ⟨sv, dx, x, M, t, rfl, hs, hx, live, q⟩ := h
    refine ⟨_, (pss_cons (ps_expr (pe_gf G_need_text hr (pa_cons (pv 1) pa_nil)))
      (pss_cons (ps_fld (pv 0) (pe_lst (pa_cons (pv 1) pa_nil)) rfl)
      (pss_cons (ps_fld (pv 0) (pe_lst pa_nil) rfl)
      (pss_cons (ps_fld (pv 0) (pe_lst pa_nil) rfl)
      (pss_cons (ps_fld (pv 0) pe_dnewK rfl)
      (pss_one (ps_fld (pv 0) pe_dnewK rfl))))))), ?_⟩
    refine seq_join (fun σ H1 => σ = [some (.ref sv), some (.ref x)] ∧ H1 = H) (fun N hN => ⟨_, rfl, x, t, rfl, hx.mono msk_same, hN _ _ ⟨rfl, rfl⟩⟩) ?_
    rintro σ H1 ⟨rfl, rfl⟩
    -- one field more, its value new
    have step : ∀ (H2 : Hp) (fs : List (Str × V)) (f : Str) (p : Addr) (o : HO), Same (Msk H1 [sv]) H2 → H2 sv = some (.ins c.se dx fs) → H2 p = none → H1 p = none ∧ p ≠ sv ∧ Same (Msk H1 [sv]) (upd (upd H2 p o) sv (.ins c.se dx (putF f (.ref p) fs))) ∧ (upd (upd H2 p o) sv (.ins c.se dx (putF f (.ref p) fs))) sv = some (.ins c.se dx (putF f (.ref p) fs)) ∧ (upd (upd H2 p o) sv (.ins c.se dx (putF f (.ref p) fs))) p = some o ∧ ∀ b u, b ≠ sv → H2 b = some u → (upd (upd H2 p o) sv (.ins c.se dx (putF f (.ref p) fs))) b = some u := fun H2 fs f p o s2 e2 hp => by
      have n1 : p ≠ sv := (ne_of_none e2 hp).symm
      have n2 : H1 p = none := by
        have := s2.free hp
        rw [msk_at (by simpa using n1)] at this
        exact this
      refine ⟨n2, n1, same_a (s2.trans (same_upd hp)), upd_same, by rw [upd_ne n1, upd_same], fun b u nb e => ?_⟩
      rw [upd_ne nb]
      exact (same_upd hp) _ _ e
    refine seq_join (fun σ H2 => ∃ tl, σ = [some (.ref sv), some (.ref x)] ∧ Same (Msk H1 [sv]) H2 ∧ H1 tl = none ∧ tl ≠ sv ∧ H2 sv = some (.ins c.se dx [("texts", .ref tl)]) ∧ H2 tl = some (.lst [.ref x])) (fun N hN => ?_) ?_
    · refine ⟨_, rfl, lk 1 (by decide), fun tl htl => ⟨_, rfl, sv, c.se, dx, [], rfl, (same_upd htl) _ _ hs, T.cl_se, T.n_se_texts, by show 0 < 1000; decide, ?_⟩⟩
      obtain ⟨a1, a2, a3, a4, a5, a6⟩ := step H1 [] "texts" tl (.lst [.ref x]) msk_same hs htl
      exact hN _ _ ⟨tl, rfl, a3, a1, a2, a4, a5⟩
    rintro σ H2 ⟨tl, rfl, s2, nt, nts, i2, t2⟩
    refine seq_join (fun σ H3 => ∃ dl, σ = [some (.ref sv), some (.ref x)] ∧ Same (Msk H1 [sv]) H3 ∧ H1 dl = none ∧ dl ≠ sv ∧ tl ≠ dl ∧ H3 sv = some (.ins c.se dx [("texts", .ref tl), ("deltas", .ref dl)]) ∧ H3 tl = some (.lst [.ref x]) ∧ H3 dl = some (.lst [])) (fun N hN => ?_) ?_
    · refine ⟨lk 0 (by decide), fun dl hdl => ⟨_, rfl, sv, c.se, dx, _, rfl, (same_upd hdl) _ _ i2, T.cl_se, T.n_se_deltas, by show 1 < 1000; decide, ?_⟩⟩
      obtain ⟨a1, a2, a3, a4, a5, a6⟩ := step H2 _ "deltas" dl (.lst []) s2 i2 hdl
      exact hN _ _ ⟨dl, rfl, a3, a1, a2, ne_of_none t2 hdl, a4, a6 _ _ nts t2, a5⟩
    rintro σ H3 ⟨dl, rfl, s3, nd, nds, ntd, i3, t3, d3⟩
    refine seq_join (fun σ H4 => ∃ al, σ = [some (.ref sv), some (.ref x)] ∧ Same (Msk H1 [sv]) H4 ∧ H1 al = none ∧ al ≠ sv ∧ tl ≠ al ∧ dl ≠ al ∧ H4 sv = some (.ins c.se dx [("texts", .ref tl), ("deltas", .ref dl), ("authors", .ref al)]) ∧ H4 tl = some (.lst [.ref x]) ∧ H4 dl = some (.lst []) ∧ H4 al = some (.lst [])) (fun N hN => ?_) ?_
    · refine ⟨lk 0 (by decide), fun al hal => ⟨_, rfl, sv, c.se, dx, _, rfl, (same_upd hal) _ _ i3, T.cl_se, T.n_se_authors, by show 2 < 1000; decide, ?_⟩⟩
      obtain ⟨a1, a2, a3, a4, a5, a6⟩ := step H3 _ "authors" al (.lst []) s3 i3 hal
      exact hN _ _ ⟨al, rfl, a3, a1, a2, ne_of_none t3 hal, ne_of_none d3 hal, a4, a6 _ _ nts t3, a6 _ _ nds d3, a5⟩
    rintro σ H4 ⟨al, rfl, s4, na, nas, nta, nda, i4, t4, d4, al4⟩
    refine seq_join (fun σ H5 => ∃ kd, σ = [some (.ref sv), some (.ref x)] ∧ Same (Msk H1 [sv]) H5 ∧ H1 kd = none ∧ kd ≠ sv ∧ H5 sv = some (.ins c.se dx [("texts", .ref tl), ("deltas", .ref dl), ("authors", .ref al), ("kinds", .ref kd)]) ∧ H5 tl = some (.lst [.ref x]) ∧ H5 dl = some (.lst []) ∧ H5 al = some (.lst []) ∧ H5 kd = some (.dK [])) (fun N hN => ?_) ?_
    · refine fun kd hkd => ⟨_, rfl, sv, c.se, dx, _, rfl, (same_upd hkd) _ _ i4, T.cl_se, T.n_se_kinds, by show 3 < 1000; decide, ?_⟩
      obtain ⟨a1, a2, a3, a4, a5, a6⟩ := step H4 _ "kinds" kd (.dK []) s4 i4 hkd
      exact hN _ _ ⟨kd, rfl, a3, a1, a2, a4, a6 _ _ nts t4, a6 _ _ nds d4, a6 _ _ nas al4, a5⟩
    rintro σ H5 ⟨kd, rfl, s5, nk, nks, i5, t5, d5, al5, k5⟩
    refine fun sp hsp => ⟨_, rfl, sv, c.se, dx, _, rfl, (same_upd hsp) _ _ i5, T.cl_se, T.n_se_spots, by show 4 < 1000; decide, ?_⟩
    obtain ⟨a1, a2, a3, a4, a5, a6⟩ := step H5 _ "spots" sp (.dK []) s5 i5 hsp
    refine q _ ⟨dx, tl, dl, al, kd, sp, [x], [], []⟩ a3 (by simp; exact ⟨nt, nd, na, nk, a1⟩) ?_ (a6 _ _ nks k5)
    refine ⟨by simp, by simp, by simp, by simp, by simp, by simp, ntd, nta, nda, ne_of_none k5 hsp, fun m hm => ?_, a4, a6 _ _ nts t5, .cons ?_ .nil, a6 _ _ nds d5, .nil, a6 _ _ nas al5, Nat.le_refl _, .inl (a6 _ _ nks k5), a5⟩
    · simp only [List.mem_cons] at hm
      rcases hm with z | z | z | z | z | z | z
      · rw [z]; exact fun y => by rw [a6 _ _ nts t5] at y; cases y
      · rw [z]; exact fun y => by rw [a6 _ _ nds d5] at y; cases y
      · rw [z]; exact fun y => by rw [a6 _ _ nas al5] at y; cases y
      · rw [z]; exact fun y => by rw [a6 _ _ nks k5] at y; cases y
      · rw [z]; exact fun y => by rw [a5] at y; cases y
      · rw [z]; exact fun y => by rw [a4] at y; cases y
      · by_cases e : m = sv
        · rw [e]; exact fun y => by rw [a4] at y; cases y
        · refine dom_same a3 m ?_
          rw [msk_at (by simpa using e)]
          exact live m z
    · refine hx.mono fun b u e => ?_
      have nb : b ∉ sv :: M := fun z => by rw [msk_in z] at e; cases e
      rw [msk_at nb] at e
      have nbs : b ≠ sv := fun z => nb (by rw [z]; exact List.mem_cons_self ..)
      rw [msk_at]
      · refine a3 _ _ ?_
        rw [msk_at (by simpa using nbs)]
        exact e
      · intro z
        simp only [List.mem_cons] at z
        rcases z with z | z | z | z | z | z | z
        · exact ne_of_none e nt z
        · exact ne_of_none e nd z
        · exact ne_of_none e na z
        · exact ne_of_none e nk z
        · exact ne_of_none e a1 z
        · exact nbs z
        · exact nb (List.mem_cons_of_mem _ z)
end
end Tc
/-! # The walks: what the server does with a message -/
namespace Tc
open PySem PySem.Spec PyProof.Rows L2
section
variable {c : Cs} {H H1 : Hp} {M : List Addr} {s : Addr} {ks : List (Str × Kd)} {S : SV} {r : SRec}
theorem SvAt.nes (h : SvAt c H M s ks S r) : s ≠ r.tl ∧ s ≠ r.dl ∧ s ≠ r.al ∧ s ≠ r.sp := by
  refine ⟨fun z => ?_, fun z => ?_, fun z => ?_, fun z => ?_⟩
  · have := h.ins; rw [z, h.tls] at this; cases this
  · have := h.ins; rw [z, h.dls] at this; cases this
  · have := h.ins; rw [z, h.als] at this; cases this
  · have := h.ins; rw [z, h.sps] at this; cases this
theorem rd_lst {H : Hp} {a b : Addr} {u : HO} {xs : List V} (hu : ∀ ys, u ≠ .lst ys) (h : Rd H a u) (hb : H b = some (.lst xs)) : a ≠ b := fun z => by
  rw [← z] at hb
  rcases h with h | ⟨o, h⟩
  · rw [h] at hb
    exact hu _ (Option.some.inj hb)
  · rw [h] at hb
    cases hb
theorem rd_ins {H : Hp} {a b C dx : Addr} {u : HO} {fs : List (Str × V)} (hu : ∀ C dx fs, u ≠ .ins C dx fs) (h : Rd H a u) (hb : H b = some (.ins C dx fs)) : a ≠ b := fun z => by
  rw [← z] at hb
  rcases h with h | ⟨o, h⟩
  · rw [h] at hb
    exact hu _ _ _ (Option.some.inj hb)
  · rw [h] at hb
    cases hb
theorem rd_upd {H : Hp} {a b : Addr} {u o : HO} (n : a ≠ b) (h : Rd H a u) : Rd (upd H b o) a u := by
  rcases h with h | ⟨q, h⟩
  · exact .inl (by rw [upd_ne n]; exact h)
  · exact .inr ⟨q, by rw [upd_ne n]; exact h⟩
theorem SvAt.addT {x : Addr} {t : List Int} (h : SvAt c H M s ks S r) (hx : TextAt c (Msk H M) x t) : SvAt c (upd H r.tl (.lst (r.ts.map V.ref ++ [.ref x]))) M s ks { S with texts := S.texts ++ [t] } { r with ts := r.ts ++ [x] } := by
  have em : Msk (upd H r.tl (.lst (r.ts.map V.ref ++ [.ref x]))) M = Msk H M := msk_mut h.tM
  have n3 := rd_lst (by intro ys z; cases z) h.kds h.tls
  have n4 : r.sp ≠ r.tl := fun z => by have := h.sps; rw [z, h.tls] at this; cases this
  exact ⟨h.sM, h.tM, h.dM, h.aM, h.kM, h.pM, h.td, h.ta, h.da, h.kp, fun m hm => dom_upd m (h.live m hm), by rw [upd_ne h.nes.1]; exact h.ins, by rw [upd_same, List.map_append]; rfl, by rw [em]; exact pr_app h.tx (.cons hx .nil), by rw [upd_ne h.td.symm]; exact h.dls, by rw [em]; exact h.dx_, by rw [upd_ne h.ta.symm]; exact h.als, h.aul, rd_upd n3 h.kds, by rw [upd_ne n4]; exact h.sps⟩
theorem SvAt.addD {x : Addr} {D : Dl} (h : SvAt c H M s ks S r) (hx : DelAt c (Msk H M) x D) : SvAt c (upd H r.dl (.lst (r.ds.map V.ref ++ [.ref x]))) M s ks { S with deltas := S.deltas ++ [D] } { r with ds := r.ds ++ [x] } := by
  have em : Msk (upd H r.dl (.lst (r.ds.map V.ref ++ [.ref x]))) M = Msk H M := msk_mut h.dM
  have n3 := rd_lst (by intro ys z; cases z) h.kds h.dls
  have n4 : r.sp ≠ r.dl := fun z => by have := h.sps; rw [z, h.dls] at this; cases this
  exact ⟨h.sM, h.tM, h.dM, h.aM, h.kM, h.pM, h.td, h.ta, h.da, h.kp, fun m hm => dom_upd m (h.live m hm), by rw [upd_ne h.nes.2.1]; exact h.ins, by rw [upd_ne h.td]; exact h.tls, by rw [em]; exact h.tx, by rw [upd_same, List.map_append]; rfl, by rw [em]; exact pr_app h.dx_ (.cons hx .nil), by rw [upd_ne h.da.symm]; exact h.als, by have := h.aul; show r.au.length ≤ (S.deltas ++ [D]).length; rw [List.length_append]; omega, rd_upd n3 h.kds, by rw [upd_ne n4]; exact h.sps⟩
theorem SvAt.addA {x : V} {i : Nat} (h : SvAt c H M s ks S r) (hl : r.au.length < S.deltas.length) : SvAt c (upd H r.al (.lst (r.au ++ [x]))) M s ks { S with auth := S.auth ++ [i] } { r with au := r.au ++ [x] } := by
  have em : Msk (upd H r.al (.lst (r.au ++ [x]))) M = Msk H M := msk_mut h.aM
  have n3 := rd_lst (by intro ys z; cases z) h.kds h.als
  have n4 : r.sp ≠ r.al := fun z => by have := h.sps; rw [z, h.als] at this; cases this
  exact ⟨h.sM, h.tM, h.dM, h.aM, h.kM, h.pM, h.td, h.ta, h.da, h.kp, fun m hm => dom_upd m (h.live m hm), by rw [upd_ne h.nes.2.2.1]; exact h.ins, by rw [upd_ne h.ta]; exact h.tls, by rw [em]; exact h.tx, by rw [upd_ne h.da]; exact h.dls, by rw [em]; exact h.dx_, upd_same, by show (r.au ++ [x]).length ≤ _; rw [List.length_append]; exact hl, rd_upd n3 h.kds, by rw [upd_ne n4]; exact h.sps⟩
theorem SvAt.setp {sp : Addr} (h : SvAt c H M s ks S r) (hn : H sp = none) : SvAt c (upd (upd H sp (.dK [])) s (.ins c.se r.dx (seF { r with sp := sp }))) (sp :: M) s ks S { r with sp := sp } := by
  have nM : sp ∉ M := fun z => h.live sp z hn
  have ns : sp ≠ s := fun z => nM (by rw [z]; exact h.sM)
  have mk : Same (Msk H M) (Msk (upd (upd H sp (.dK [])) s (.ins c.se r.dx (seF { r with sp := sp }))) (sp :: M)) := fun b u e => by
    have nb : b ∉ M := fun z => by rw [msk_in z] at e; cases e
    rw [msk_at nb] at e
    have nb1 : b ≠ sp := ne_of_none e hn
    have nb2 : b ≠ s := fun z => nb (by rw [z]; exact h.sM)
    rw [msk_at (by simp; exact ⟨nb1, nb⟩), upd_ne nb2, upd_ne nb1]
    exact e
  have at_ : ∀ b u, b ≠ s → H b = some u → (upd (upd H sp (.dK [])) s (.ins c.se r.dx (seF { r with sp := sp }))) b = some u := fun b u nb e => by
    rw [upd_ne nb, upd_ne (ne_of_none e hn)]
    exact e
  have hsp : (upd (upd H sp (.dK [])) s (.ins c.se r.dx (seF { r with sp := sp }))) sp = some (.dK []) := by rw [upd_ne ns, upd_same]
  have n3 : r.kd ≠ s := rd_ins (by intro _ _ _ z; cases z) h.kds h.ins
  have nk : r.kd ≠ sp := fun z => by
    rcases h.kds with e | ⟨o, e⟩ <;> rw [z, hn] at e <;> cases e
  refine ⟨List.mem_cons_of_mem _ h.sM, List.mem_cons_of_mem _ h.tM, List.mem_cons_of_mem _ h.dM, List.mem_cons_of_mem _ h.aM, List.mem_cons_of_mem _ h.kM, List.mem_cons_self .., h.td, h.ta, h.da, nk, fun m hm => ?_, upd_same, at_ _ _ h.nes.1.symm h.tls, pr_imp (fun _ _ z => z.mono mk) h.tx, at_ _ _ h.nes.2.1.symm h.dls, pr_imp (fun _ _ z => z.mono mk) h.dx_, at_ _ _ h.nes.2.2.1.symm h.als, h.aul, rd_upd n3 (rd_same (same_upd hn) h.kds), hsp⟩
  rcases List.mem_cons.mp hm with z | z
  · rw [z, hsp]; intro y; cases y
  · exact dom_upd m (dom_upd m (h.live m z))
/-- the kinds are looked at | let go -/
theorem SvAt.frz {u : HO} (h : SvAt c H M s ks S r) (hu : u = .dK (kvOf ks) ∨ ∃ o, u = .frz o (.dK (kvOf ks))) : SvAt c (upd H r.kd u) M s ks S r := by
  have em : Msk (upd H r.kd u) M = Msk H M := msk_mut h.kM
  have n1 : s ≠ r.kd := (rd_ins (by intro _ _ _ z; cases z) h.kds h.ins).symm
  have n2 : r.tl ≠ r.kd := (rd_lst (by intro ys z; cases z) h.kds h.tls).symm
  have n3 : r.dl ≠ r.kd := (rd_lst (by intro ys z; cases z) h.kds h.dls).symm
  have n4 : r.al ≠ r.kd := (rd_lst (by intro ys z; cases z) h.kds h.als).symm
  refine ⟨h.sM, h.tM, h.dM, h.aM, h.kM, h.pM, h.td, h.ta, h.da, h.kp, fun m hm => dom_upd m (h.live m hm), by rw [upd_ne n1]; exact h.ins, by rw [upd_ne n2]; exact h.tls, by rw [em]; exact h.tx, by rw [upd_ne n3]; exact h.dls, by rw [em]; exact h.dx_, by rw [upd_ne n4]; exact h.als, h.aul, ?_, by rw [upd_ne h.kp.symm]; exact h.sps⟩
  rcases hu with z | ⟨o, z⟩
  · exact .inl (by rw [upd_same, z])
  · exact .inr ⟨o, by rw [upd_same, z]⟩
end
def svRe (S : SV) (v : Nat) (D : Dl) : Dl := (S.deltas.drop v).foldl (fun d l => gaps (over d l false)) D
def svLast (S : SV) : List Int := S.texts.getD S.deltas.length []
def svSub (S : SV) (v : Nat) (D : Dl) (i : Nat) : SV := ⟨S.texts ++ [app (svRe S v D) (svLast S)], S.deltas ++ [svRe S v D], S.auth ++ [i]⟩
/-- what goes to one program -/
def OutAt (c : Cs) (H : Hp) (nm : Str) (v : Nat) (t : List Int) (D : Dl) (q : Addr) (p : Str × Kd) : Prop := ∃ m, H q = some (.tup [.str p.1, .ref m]) ∧ DnAt c H p.2 v t m (if p.1 = nm then .ack else .chg D)
theorem OutAt.mono {c : Cs} {H H' : Hp} {nm : Str} {v : Nat} {t : List Int} {D : Dl} {q : Addr} {p : Str × Kd} (s : Same H H') (h : OutAt c H nm v t D q p) : OutAt c H' nm v t D q p := by
  obtain ⟨m, h1, h2⟩ := h
  exact ⟨m, s _ _ h1, h2.mono s⟩
section
variable {P : Program} {w : World} {K : PySem.W.Frag} {mg : Str → Option Value} {base : Heap} {c : Cs}
theorem cut_from (xs : List V) (v : Nat) (h : v ≤ xs.length) : cutV xs (some (v : Int)) none = xs.drop v := by
  unfold cutV
  rw [HT.sIx_nat, HT.sIx_none, Nat.min_eq_left h, List.take_of_length_le (by rw [List.length_drop]; exact Nat.le_refl _)]
/- Server.submit: 0 self (cell), 1 name (cell), 2 version, 3 rows, 4 kind, 5 delta, 6 later, 7 spots, 8 label, 9 mark, 10 newest (cell), 11 one -/
theorem sc_Server_submit : FnScope ["self", "name", "version", "rows", "kind", "delta", "later", "spots", "label", "mark", "newest", "one"] ["self", "name", "version", "rows"] (defScope s_Server_submit) := ⟨rfl, rfl, rfl, by decide +kernel, rfl, by decide +kernel, by decide +kernel⟩
theorem bi_Server_submit : BindsB "submit" "Server.submit" s_Server_submit ["self", "name", "version", "rows"] := fun _ _ _ _ _ _ us hl => match us, hl with | [_, _, _, _], _ => rfl
def spSvSub (c : Cs) : Sp := fun vs H Q _ => ∃ (s rr : Addr) (M : List Addr) (ks : List (Str × Kd)) (S : SV) (r : SRec) (nm : Str) (k : Kd) (v i : Nat) (D : Dl) (t : List Int) (rs : List Row), vs = [.ref s, .str nm, .int v, .ref rr] ∧ SvAt c H M s ks S r ∧ SvOk S ∧ H r.kd = some (.dK (kvOf ks)) ∧ NmOk nm ∧ kOf ks nm = some (.str k.s) ∧ ks.length ≤ 100 ∧
  (∀ p ∈ ks, kOf ks p.1 = some (.str p.2.s)) ∧ S.deltas.length ≤ 19 ∧ r.au.length = S.deltas.length ∧ v ≤ S.deltas.length ∧ S.texts[v]? = some t ∧ RowsAt (Msk H M) rr (crows (wd k) t 0 rs) ∧ gaps rs = D ∧ rs.length ≤ 2 * D.ds.length + 1 ∧ t.length = D.ds.length ∧ DOk D ∧
  ∀ H' r' L qs, Same (Msk H [s, r.tl, r.dl, r.al]) H' → H r'.sp = none → r'.tl = r.tl → r'.dl = r.dl → r'.al = r.al → r'.kd = r.kd → r'.au.length = r.au.length + 1 → SvAt c H' (r'.sp :: M) s ks (svSub S v D i) r' → H' r.kd = some (.dK (kvOf ks)) →
    H L = none → L ≠ r'.sp → H' L = some (.lst (qs.map V.ref)) → Paired (OutAt c (Msk H' (L :: r'.sp :: M)) nm (S.deltas.length + 1) (svLast S) (svRe S v D)) qs ks → Q (.ref L) H'
theorem ok_Server_submit (T : Txt K mg c) (G_Server_kind_of : MF P w K mg base 2 c.se "kind_of" ["self", "name"] [] (spSvKind c)) (G_Server_need_version : MF P w K mg base 2 c.se "need_version" ["self", "version", "most"] [] spSvNeed) (G_delta_from : GF P w K mg base 6 "delta_from" ["rows", "text", "kind"] (spDeltaFrom c))
    (G_Delta_over : MK P w K mg base 6 c.de "over" ["self", "other", "first"] 2 ["first"] (fun vs zs => vs ++ zs) (spDelOver c)) (G_Delta_call : CF P w K mg base 7 c.de (spDelCall c)) (G_Server_message : MF P w K mg base 5 c.se "message" ["self", "name", "version"] [] (spSvMsg c)) : MF P w K mg base 8 c.se "submit" ["self", "name", "version", "rows"] [] (spSvSub c) := by
  refine T.d_Server_submit.mf sc_Server_submit bi_Server_submit (fun vs H Q E h => ?_) (fun f cdv A outer s H vs Q E hr h => ?_)
  · obtain ⟨s, rr, M, ks, S, r, nm, k, v, i, D, t, rs, rfl, _⟩ := h
    rfl
  · obtain ⟨sv, rr, M, ks, S, r, nm, k, v, i, D, t, rs, rfl, hs, hok, hkd, hnm, hk, hkl, hka, hd19, hau, hv, ht, hrr, hg, hrl, htl, hDo, q⟩ := h
    refine ⟨_, (pss_cons (ps_set (i := 4) sc_Server_submit.nd rfl (Or.inl rfl) (pe_mf G_Server_kind_of T.cl_se hr (pv 0) (pa_cons (pv 1) pa_nil)))
      (pss_cons (ps_expr (pe_mf G_Server_need_version T.cl_se hr (pv 0) (pa_cons (pv 2) (pa_cons (pe_callB call_len_seq (by rfl) T.z_len (by decide +kernel) (pa_cons (pe_fld (pv 0) rfl) pa_nil)) pa_nil))))
      (pss_cons (ps_set (i := 5) sc_Server_submit.nd rfl (Or.inl rfl) (pe_gf G_delta_from hr (pa_cons (pv 3) (pa_cons (pe_ix ix_list (pe_fld (pv 0) rfl) (pv 2) (fun _ _ => rfl)) (pa_cons (pv 4) pa_nil)))))
      (pss_cons (ps_for PassesOwn.never rfl (pi_listN K (pe_slice sl_list (pe_fld (pv 0) rfl) (po_some (pv 2)) po_none)) (pg_name (i := 6) sc_Server_submit.nd rfl (Or.inl rfl))
      (pss_one (ps_set (i := 5) sc_Server_submit.nd rfl (Or.inl rfl) (pe_mk G_Delta_over T.cl_de hr (pv 5) (pa_cons (pv 6) pa_nil) (pk_cons pe_bl pk_nil)))))
      (pss_cons (ps_expr (pe_bm PySem.F.plainAttrs_list PySem.F.slot_list_append PySem.F.type_list_append mt_append (pe_fld (pv 0) rfl) (pa_cons (pe_cf G_Delta_call hr (pv 5) (pa_cons (pe_ix ix_list (pe_fld (pv 0) rfl) (pe_un un_neg pe_int) (fun _ _ => rfl)) pa_nil)) pa_nil)))
      (pss_cons (ps_expr (pe_bm PySem.F.plainAttrs_list PySem.F.slot_list_append PySem.F.type_list_append mt_append (pe_fld (pv 0) rfl) (pa_cons (pv 5) pa_nil)))
      (pss_cons (ps_expr (pe_bm PySem.F.plainAttrs_list PySem.F.slot_list_append PySem.F.type_list_append mt_append (pe_fld (pv 0) rfl) (pa_cons (pv 1) pa_nil)))
      (pss_cons (ps_set (i := 7) sc_Server_submit.nd rfl (Or.inl rfl) pe_dnewK)
      (pss_cons (ps_lock (ps_for PassesOwn.never rfl (pi_items (pe_fld (pv 0) rfl)) (pg_tup rfl (pgs_cons (pg_name (i := 8) sc_Server_submit.nd rfl (Or.inl rfl)) (pgs_cons (pg_name (i := 9) sc_Server_submit.nd rfl (Or.inl rfl)) pgs_nil)))
      (pss_one ps_never)))
      (pss_cons (ps_fld (pv 0) (pv 7) rfl)
      (pss_cons (ps_set (i := 10) sc_Server_submit.nd rfl (Or.inr rfl) (pe_callB call_len_seq (by rfl) T.z_len (by decide +kernel) (pa_cons (pe_fld (pv 0) rfl) pa_nil)))
      (pss_one (ps_ret (pe_lock (pe_lc (own := [("one", 11)]) (g := gName 11) rfl sc_Server_submit.nd (pi_keys (pe_fld (pv 0) rfl)) (blkOk_by (own := [("one", 11)]) (N := ["self", "name", "version", "rows", "kind", "delta", "later", "spots", "label", "mark", "newest", "one"]) (sc := defScope s_Server_submit) (by decide +kernel)) (fun _ _ _ _ _ => pg_name (i := 11) sc_Server_submit.nd rfl (by first | exact Or.inl rfl | exact Or.inr rfl)) (fun _ _ _ _ _ => pts_nil) (fun _ _ _ _ _ => (pe_tup (pa_cons (pv 11) (pa_cons (pe_ifExp (pt_cmpR op_eq (pv 11) (pv 1) (nomark _)) (pe_tup (pa_cons (pe_globE T.s_ACK_server) (pa_cons (pv 10) pa_nil))) (pe_mf G_Server_message T.cl_se hr (pv 0) (pa_cons (pv 11) (pa_cons (pe_op op_sub (pv 10) pe_int) pa_nil)))) pa_nil))))))))))))))))))), ?_⟩
    have hdl := hDo.l
    have hbt : before rs = t.length := by rw [← ds_gaps, hg, htl]
    have hrp : rputs rs = D.ps.flatten := by rw [← puts_gaps, hg]
    have hTok := hok.t t (List.mem_of_getElem? ht)
    have htl2 := hTok.l
    have hlen := pr_len hs.dx_
    refine seq_join (fun σ H1 => σ = [some (.ref sv), some (.str nm), some (.int v), some (.ref rr), some (.str k.s), none, none, none, none, none, none, none] ∧ H1 = H) (fun N hN => ⟨_, rfl, sv, r.dx, _, rfl, hs.ins, rfl, _, rfl, sv, M, ks, S, r, nm, k, rfl, hs, hnm, hk, hN _ _ ⟨rfl, rfl⟩⟩) ?_
    rintro σ H1 ⟨rfl, rfl⟩
    refine seq_join (fun σ H2 => σ = [some (.ref sv), some (.str nm), some (.int v), some (.ref rr), some (.str k.s), none, none, none, none, none, none, none] ∧ H2 = H1) (fun N hN => ⟨_, rfl, sv, r.dx, _, rfl, hs.ins, rfl, _, rfl, _, rfl, sv, c.se, r.dx, _, .ref r.dl, rfl, hs.ins, T.cl_se, T.n_se_deltas, rfl, r.dl, _, rfl, .inl (SqL.of hs.dls), .ref sv, v, S.deltas.length, ?_, hv, hN _ _ ⟨rfl, rfl⟩⟩) ?_
    · rw [List.length_map, hlen]
      rfl
    rintro σ H2 ⟨rfl, rfl⟩
    refine seq_join (fun σ H3 => ∃ p, σ = [some (.ref sv), some (.str nm), some (.int v), some (.ref rr), some (.str k.s), some (.ref p), none, none, none, none, none, none] ∧ Same H2 H3 ∧ DelAt c (Msk H3 M) p D) (fun N hN => ?_) ?_
    · obtain ⟨pt, hpt, hTt⟩ := pr_at hs.tx ht
      refine ⟨_, rfl, _, rfl, sv, c.se, r.dx, _, .ref r.tl, rfl, hs.ins, T.cl_se, T.n_se_texts, rfl, _, rfl, r.tl, _, (v : Int), .ref pt, rfl, rfl, SqL.of hs.tls, atI_of (by rw [List.getElem?_map, hpt]; rfl), _, rfl, rr, pt, t, k, rs, rfl, hrr.mono msk_same, hTt.mono msk_same, hbt, by omega, by omega, by rw [hrp]; omega, by rw [hrp]; exact hDo.c, fun H3 p s3 hd => hN _ _ ⟨p, rfl, s3, by rw [← hg]; exact hd.mono (live_fr hs.live)⟩⟩
    rintro σ H3 ⟨p, rfl, s3, hd⟩
    have hs3 := hs.grow s3
    -- past what has come since
    refine seq_join (fun σ H4 => ∃ p v6, σ = [some (.ref sv), some (.str nm), some (.int v), some (.ref rr), some (.str k.s), some (.ref p), v6, none, none, none, none, none] ∧ Same H3 H4 ∧ DelAt c (Msk H4 M) p (svRe S v D) ∧ (svRe S v D).ds.length = (svLast S).length ∧ DOk (svRe S v D)) (fun N hN => ?_) ?_
    · refine ⟨_, rfl, sv, c.se, r.dx, _, .ref r.dl, rfl, hs3.ins, T.cl_se, T.n_se_deltas, rfl, _, rfl, _, rfl, r.dl, _, rfl, SqL.of hs3.dls, fun sl hsl => ?_⟩
      have s4 := same_upd (H := H3) (o := .lst (cutV (r.ds.map V.ref) (some (v : Int)) none)) hsl
      have hcut : cutV (r.ds.map V.ref) (some (v : Int)) none = (r.ds.drop v).map V.ref := by
        rw [cut_from _ _ (by rw [List.length_map]; omega), List.map_drop]
      have hsl4 : upd H3 sl (.lst (cutV (r.ds.map V.ref) (some (v : Int)) none)) sl = some (.lst ((r.ds.drop v).map V.ref)) := by rw [upd_same, hcut]
      generalize upd H3 sl (.lst (cutV (r.ds.map V.ref) (some (v : Int)) none)) = H4 at *
      refine ⟨sl, rfl, ⟨_, SqL.of hsl4⟩, for_list (K := K) (a := sl) (xs := (r.ds.drop v).map V.ref) (fun j σ H5 => ∃ p v6 F, σ = [some (.ref sv), some (.str nm), some (.int v), some (.ref rr), some (.str k.s), some (.ref p), v6, none, none, none, none, none] ∧ Same H4 H5 ∧ DelAt c (Msk H5 M) p F ∧ F.ds.length = (S.texts.getD (v + j) []).length ∧ DOk F ∧ svRe S v D = (S.deltas.drop (v + j)).foldl (fun d l => gaps (over d l false)) F)
        ⟨p, none, D, rfl, same_refl, hd.mono (msk_mono s4), by rw [← htl]; show _ = (S.texts.getD v []).length; rw [List.getD_eq_getElem?_getD, ht]; rfl, hDo, rfl⟩ ?_ ?_ ?_⟩
      · rintro j σ H5 - ⟨p, v6, F, rfl, s5, _⟩
        exact SqL.of (s5 _ _ hsl4)
      · rintro j x σ H5 hx ⟨p, v6, F, rfl, s5, hF, hFl, hFo, hre⟩
        obtain ⟨b, hb, rfl⟩ := lmap_at hx
        rw [List.getElem?_drop] at hb
        obtain ⟨B, hB, hBd⟩ := pr_at2 hs3.dx_ hb
        obtain ⟨hb1, hb2, hb3⟩ := hok.d _ B hB
        have hBi := (hBd.mono (msk_mono (s4.trans s5))).mono msk_same
        have hFi := hF.mono msk_same
        obtain ⟨dxf, rf_, pfp, pfd, rsf, hfi, _⟩ := id hFi
        have hTv : (S.texts.getD (v + j) []).length ≤ 200 := by
          cases e : S.texts[v + j]? with
          | none => rw [List.getD_eq_getElem?_getD, e]; exact Nat.zero_le _
          | some t2 => rw [List.getD_eq_getElem?_getD, e]; exact (hok.t t2 (List.mem_of_getElem? e)).l
        have hFL := hFo.l
        have hBL := hb3.l
        refine ⟨_, rfl, p, dxf, _, rfl, hfi, rfl, _, rfl, rfl, rfl, p, b, F, B, false, rfl, hFi, hBi, by omega, by omega, by omega, by omega, fun H6 z s6 hz => ?_⟩
        have hlive5 : ∀ m ∈ M, H5 m ≠ none := fun m hm => dom_same s5 m (dom_same s4 m (hs3.live m hm))
        refine ⟨z, _, gaps (over F B false), rfl, s5.trans s6, hz.mono (live_fr hlive5), ?_, hFo.over, ?_⟩
        · rw [over_ds hb3.w (by omega), hb2]
          rfl
        · have hi := (List.getElem?_eq_some_iff.mp hB)
          obtain ⟨h1, h2⟩ := hi
          rw [hre, List.drop_eq_getElem_cons h1, h2]
          rfl
      · rintro σ H5 ⟨p, v6, F, rfl, s5, hF, hFl, hFo, hre⟩
        have hn : v + ((r.ds.drop v).map V.ref).length = S.deltas.length := by
          rw [List.length_map, List.length_drop]
          omega
        rw [hn] at hFl hre
        rw [List.drop_length] at hre
        have hre2 : svRe S v D = F := hre
        exact hN _ _ ⟨p, v6, rfl, s4.trans s5, by rw [hre2]; exact hF, by rw [hre2]; exact hFl, by rw [hre2]; exact hFo⟩
    clear hd
    rintro σ H4 ⟨p, v6, rfl, s4, hd, hdn, hdo⟩
    have hs4 := hs3.grow s4
    generalize hR : svRe S v D = R at *
    generalize hL' : svLast S = Lt at *
    -- the text behind it
    refine seq_join (fun σ H5 => ∃ x, σ = [some (.ref sv), some (.str nm), some (.int v), some (.ref rr), some (.str k.s), some (.ref p), v6, none, none, none, none, none] ∧ Same (Msk H2 [sv, r.tl, r.dl, r.al]) H5 ∧ SvAt c H5 M sv ks { S with texts := S.texts ++ [app R Lt] } { r with ts := r.ts ++ [x] } ∧ DelAt c (Msk H5 M) p R ∧ H5 r.kd = some (.dK (kvOf ks))) (fun N hN => ?_) ?_
    · have hLt : S.texts[S.deltas.length]? = some Lt := by
        rw [← hL']
        unfold svLast
        rw [List.getD_eq_getElem?_getD, List.getElem?_eq_getElem (by have := hok.n; omega)]
        rfl
      obtain ⟨pt, hpt, hTt⟩ := pr_at hs4.tx hLt
      have htsl : r.ts.length = S.deltas.length + 1 := (pr_len hs4.tx).trans hok.n
      have hdi := hd.mono msk_same
      obtain ⟨dxf, rf_, pfp, pfd, rsf, hpi, _⟩ := id hdi
      have hLo := hok.t Lt (List.mem_of_getElem? hLt)
      have hLl := hLo.l
      have hRl := hdo.l
      refine ⟨_, rfl, sv, c.se, r.dx, _, .ref r.tl, rfl, hs4.ins, T.cl_se, T.n_se_texts, rfl, .inl ⟨rfl, _, SqL.of hs4.tls⟩, _, rfl, p, rfl, _, rfl, sv, c.se, r.dx, _, .ref r.tl, rfl, hs4.ins, T.cl_se, T.n_se_texts, rfl, _, rfl, r.tl, _, -1, .ref pt, rfl, rfl, SqL.of hs4.tls, atI_neg1 ?_, .inr ⟨_, _, hpi⟩,
        p, pt, R, Lt, rfl, hdi, hTt.mono msk_same, hdn.symm, hLo.c, hdo.c, by omega, by omega, fun Hx x sx hx => ?_⟩
      · rw [List.length_map, htsl, List.getElem?_map, Nat.add_sub_cancel, hpt]
        rfl
      have hsx := hs4.grow sx
      refine ⟨r.tl, r.ts.map V.ref, _, rfl, rfl, hsx.tls, szlt _ (by rw [List.length_map]; omega), hN _ _ ⟨x, rfl, ?_, hsx.addT (hx.mono (live_fr hs4.live)), ?_, ?_⟩⟩
      · intro b u e
        have nb : b ≠ r.tl := fun z => by rw [z, msk_in (by simp)] at e; cases e
        rw [upd_ne nb]
        exact sx _ _ (s4 _ _ (s3 _ _ (msk_same _ _ e)))
      · rw [msk_mut hs.tM]
        exact hd.mono (msk_mono sx)
      · rw [upd_ne (rd_lst (by intro ys z; cases z) hs.kds hs.tls)]
        exact sx _ _ (s4 _ _ (s3 _ _ hkd))
    rintro σ H5 ⟨x, rfl, s5, hs5, hd5, hk5⟩
    -- the delta and its author
    refine seq_join (fun σ H6 => σ = [some (.ref sv), some (.str nm), some (.int v), some (.ref rr), some (.str k.s), some (.ref p), v6, none, none, none, none, none] ∧ Same (Msk H2 [sv, r.tl, r.dl, r.al]) H6 ∧ SvAt c H6 M sv ks { S with texts := S.texts ++ [app R Lt], deltas := S.deltas ++ [R] } { r with ts := r.ts ++ [x], ds := r.ds ++ [p] } ∧ H6 r.kd = some (.dK (kvOf ks))) (fun N hN => ?_) ?_
    · refine ⟨_, rfl, sv, c.se, r.dx, _, .ref r.dl, rfl, hs5.ins, T.cl_se, T.n_se_deltas, rfl, .inl ⟨rfl, _, SqL.of hs5.dls⟩, _, rfl, r.dl, r.ds.map V.ref, _, rfl, rfl, hs5.dls, szlt _ (by rw [List.length_map]; omega), hN _ _ ⟨rfl, ?_, hs5.addD hd5, ?_⟩⟩
      · intro b u e
        have nb : b ≠ r.dl := fun z => by rw [z, msk_in (by simp)] at e; cases e
        rw [upd_ne nb]
        exact s5 _ _ e
      · rw [upd_ne (rd_lst (by intro ys z; cases z) hs.kds hs.dls)]
        exact hk5
    rintro σ H6 ⟨rfl, s6, hs6, hk6⟩
    refine seq_join (fun σ H7 => σ = [some (.ref sv), some (.str nm), some (.int v), some (.ref rr), some (.str k.s), some (.ref p), v6, none, none, none, none, none] ∧ Same (Msk H2 [sv, r.tl, r.dl, r.al]) H7 ∧ SvAt c H7 M sv ks ⟨S.texts ++ [app R Lt], S.deltas ++ [R], S.auth ++ [i]⟩ { r with ts := r.ts ++ [x], ds := r.ds ++ [p], au := r.au ++ [.str nm] } ∧ H7 r.kd = some (.dK (kvOf ks))) (fun N hN => ?_) ?_
    · have hlt : r.au.length < (S.deltas ++ [R]).length := by rw [List.length_append, List.length_singleton]; omega
      refine ⟨_, rfl, sv, c.se, r.dx, _, .ref r.al, rfl, hs6.ins, T.cl_se, T.n_se_authors, rfl, .inl ⟨rfl, _, SqL.of hs6.als⟩, _, rfl, r.al, r.au, _, rfl, rfl, hs6.als, szlt _ (by omega), hN _ _ ⟨rfl, ?_, hs6.addA (i := i) (x := .str nm) hlt, ?_⟩⟩
      · intro b u e
        have nb : b ≠ r.al := fun z => by rw [z, msk_in (by simp)] at e; cases e
        rw [upd_ne nb]
        exact s6 _ _ e
      · rw [upd_ne (rd_lst (by intro ys z; cases z) hs.kds hs.als)]
        exact hk6
    rintro σ H7 ⟨rfl, s7, hs7, hk7⟩
    -- no marks stand
    refine seq_join (fun σ H8 => ∃ sp, σ = [some (.ref sv), some (.str nm), some (.int v), some (.ref rr), some (.str k.s), some (.ref p), v6, some (.ref sp), none, none, none, none] ∧ H7 sp = none ∧ H8 = upd H7 sp (.dK [])) (fun N hN => fun sp hsp => hN _ _ ⟨sp, rfl, hsp, rfl⟩) ?_
    rintro σ H8 ⟨sp, rfl, hsp, rfl⟩
    have hs8 := hs7.grow (same_upd (o := .dK []) hsp)
    refine seq_join (fun σ H9 => σ = [some (.ref sv), some (.str nm), some (.int v), some (.ref rr), some (.str k.s), some (.ref p), v6, some (.ref sp), none, none, none, none] ∧ H9 = upd H7 sp (.dK [])) (fun N hN => ?_) ?_
    · refine ⟨r.sp, .dK [], hs8.sps, trivial, fun od => ?_⟩
      have nss : sv ≠ r.sp := hs8.nes.2.2.2
      refine ⟨_, rfl, sv, c.se, r.dx, _, .ref r.sp, rfl, by rw [upd_ne nss]; exact hs8.ins, T.cl_se, T.n_se_spots, rfl, r.sp, od, [], rfl, upd_same, for_it walk_items (fun i σ H9 => i = 0 ∧ σ = [some (.ref sv), some (.str nm), some (.int v), some (.ref rr), some (.str k.s), some (.ref p), v6, some (.ref sp), none, none, none, none] ∧ H9 = upd (upd H7 sp (.dK [])) r.sp (.frz od (.dK []))) ⟨rfl, rfl, rfl⟩ ?_ ?_ ?_⟩
      · rintro i σ H9 - ⟨_, rfl, rfl⟩
        exact upd_same
      · intro i x σ H9 H10 hi
        exact absurd hi (Nat.not_lt_zero _)
      · rintro σ H9 ⟨_, rfl, rfl⟩
        refine ⟨upd_same, hN _ _ ⟨rfl, ?_⟩⟩
        rw [upd_upd]
        funext b
        by_cases e : b = r.sp
        · rw [e, upd_same]
          exact hs8.sps.symm
        · rw [upd_ne e]
    rintro σ H9 ⟨rfl, rfl⟩
    refine seq_join (fun σ H10 => ∃ r', σ = [some (.ref sv), some (.str nm), some (.int v), some (.ref rr), some (.str k.s), some (.ref p), v6, some (.ref sp), none, none, none, none] ∧ Same (Msk H2 [sv, r.tl, r.dl, r.al]) H10 ∧ r'.sp = sp ∧ r'.tl = r.tl ∧ r'.dl = r.dl ∧ r'.al = r.al ∧ r'.kd = r.kd ∧ r'.au.length = r.au.length + 1 ∧ SvAt c H10 (sp :: M) sv ks ⟨S.texts ++ [app R Lt], S.deltas ++ [R], S.auth ++ [i]⟩ r' ∧ H10 r.kd = some (.dK (kvOf ks))) (fun N hN => ?_) ?_
    · refine ⟨_, rfl, _, rfl, sv, c.se, r.dx, _, rfl, hs8.ins, T.cl_se, T.n_se_spots, by show 5 < 1000; decide, hN _ _ ⟨⟨r.dx, r.tl, r.dl, r.al, r.kd, sp, r.ts ++ [x], r.ds ++ [p], r.au ++ [V.str nm]⟩, rfl, ?_, rfl, rfl, rfl, rfl, rfl, by rw [List.length_append]; rfl, by exact hs7.setp hsp, ?_⟩⟩
      · intro b u e
        have nb : b ≠ sv := fun z => by rw [z, msk_in (by simp)] at e; cases e
        rw [upd_ne nb]
        exact (same_upd hsp) _ _ (s7 _ _ e)
      · rw [upd_ne (rd_ins (by intro _ _ _ z; cases z) hs.kds hs.ins)]
        exact (same_upd hsp) _ _ hk7
    rintro σ H10 ⟨r', rfl, s10, e1, e2, e3, e4, e5, e6, hs10, hk10⟩
    have nH2sp : H2 sp = none := by
      have n1 : sp ∉ [sv, r.tl, r.dl, r.al] := fun z => by
        have : H7 sp ≠ none := by
          simp only [List.mem_cons, List.not_mem_nil, or_false] at z
          rcases z with z | z | z | z
          · rw [z, hs7.ins]; intro y; cases y
          · rw [z]; intro y; have := hs7.tls; rw [show ({ r with ts := r.ts ++ [x], ds := r.ds ++ [p], au := r.au ++ [.str nm] } : SRec).tl = r.tl from rfl, y] at this; cases this
          · rw [z]; intro y; have := hs7.dls; rw [show ({ r with ts := r.ts ++ [x], ds := r.ds ++ [p], au := r.au ++ [.str nm] } : SRec).dl = r.dl from rfl, y] at this; cases this
          · rw [z]; intro y; have := hs7.als; rw [show ({ r with ts := r.ts ++ [x], ds := r.ds ++ [p], au := r.au ++ [.str nm] } : SRec).al = r.al from rfl, y] at this; cases this
        exact this hsp
      have := s7.free hsp
      rw [msk_at n1] at this
      exact this
    refine seq_join (fun σ H11 => σ = [some (.ref sv), some (.str nm), some (.int v), some (.ref rr), some (.str k.s), some (.ref p), v6, some (.ref sp), none, none, some (.int (S.deltas.length + 1 : Nat)), none] ∧ H11 = H10) (fun N hN => ?_) ?_
    · refine ⟨_, rfl, sv, c.se, r'.dx, _, .ref r'.dl, rfl, hs10.ins, T.cl_se, T.n_se_deltas, rfl, r'.dl, _, rfl, .inl (SqL.of hs10.dls), hN _ _ ⟨?_, rfl⟩⟩
      rw [List.length_map, pr_len hs10.dx_]
      show [_, _, _, _, _, _, _, _, _, _, some (V.int ((S.deltas ++ [R]).length : Nat)), _] = _
      rw [List.length_append]
      rfl
    rintro σ H11 ⟨rfl, rfl⟩
    have hk11 : H11 r'.kd = some (.dK (kvOf ks)) := by rw [e5]; exact hk10
    refine ⟨r'.kd, .dK (kvOf ks), hk11, trivial, fun od => ?_⟩
    have hsf := hs10.frz (u := .frz od (.dK (kvOf ks))) (.inr ⟨od, rfl⟩)
    refine ⟨_, rfl, sv, c.se, r'.dx, _, .ref r'.kd, rfl, hsf.ins, T.cl_se, T.n_se_kinds, rfl, r'.kd, od, rfl, .inl ⟨kvOf ks, upd_same, fun L hL => ?_⟩⟩
    have hkf : (upd H11 r'.kd (.frz od (.dK (kvOf ks)))) r'.kd = some (.frz od (.dK (kvOf ks))) := upd_same
    have nLM : L ∉ sp :: M := fun z => hsf.live L z hL
    have nLk : L ≠ r'.kd := fun z => by rw [z, hkf] at hL; cases hL
    have hL11 : H11 L = none := by rw [upd_ne nLk] at hL; exact hL
    generalize hHF : upd H11 r'.kd (.frz od (.dK (kvOf ks))) = HF at *
    have hkv : (kvOf ks).length = ks.length := by unfold kvOf; rw [List.length_map]
    have hkvi : ∀ (i : Nat) (kk : Key) (vv : V), (kvOf ks)[i]? = some (kk, vv) → ∃ p, ks[i]? = some p ∧ kk = .inr p.1 := fun i kk vv h => by
      unfold kvOf at h
      rw [List.getElem?_map] at h
      obtain ⟨p, h1, h2⟩ := Option.map_eq_some_iff.mp h
      exact ⟨p, h1, (congrArg Prod.fst h2).symm⟩
    refine lc_it (walk_keys (d := r'.kd) (o := od) (kvs := kvOf ks)) (fun i H3 => Same HF H3 ∧ ∃ qs : List Addr, H3 L = some (.lst (qs.map V.ref)) ∧ Paired (OutAt c (Msk H3 (L :: sp :: M)) nm (S.deltas.length + 1) Lt R) qs (ks.take i)) ⟨same_upd hL, [], upd_same, .nil⟩ (fun i H3 _ z => z.1 _ _ hkf) ?_ ?_
    · rintro i x' H12 H13 hi ⟨s12, qs, hq, hqs⟩ ⟨rfl, kk, vv, hkvv, rfl⟩
      obtain ⟨pk, hpk, rfl⟩ := hkvi i kk vv hkvv
      have hi2 := (List.getElem?_eq_some_iff.mp hpk).1
      have hql := pr_len hqs
      rw [List.length_take] at hql
      rw [take_snoc hpk]
      have live13 : ∀ m ∈ L :: sp :: M, H13 m ≠ none := fun m hm => by
        rcases List.mem_cons.mp hm with z | z
        · rw [z, hq]; intro y; cases y
        · exact dom_same s12 m (hsf.live m z)
      have out : ∀ H14 m, Same H13 H14 → DnAt c (Fr H13 H14) pk.2 (S.deltas.length + 1) Lt m (if pk.1 = nm then .ack else .chg R) → ∀ q0, H14 q0 = none → Same HF (upd (upd H14 q0 (.tup [.str pk.1, .ref m])) L (.lst (qs.map V.ref ++ [.ref q0]))) ∧ ∃ qs2 : List Addr, (upd (upd H14 q0 (.tup [.str pk.1, .ref m])) L (.lst (qs.map V.ref ++ [.ref q0]))) L = some (.lst (qs2.map V.ref)) ∧ Paired (OutAt c (Msk (upd (upd H14 q0 (.tup [.str pk.1, .ref m])) L (.lst (qs.map V.ref ++ [.ref q0]))) (L :: sp :: M)) nm (S.deltas.length + 1) Lt R) qs2 (ks.take i ++ [pk]) := fun H14 m s14 hdn q0 hq0 => by
        have sq := same_upd (H := H14) (o := .tup [.str pk.1, .ref m]) hq0
        refine ⟨same_mut ((s12.trans s14).trans sq) hL, qs ++ [q0], by rw [upd_same, List.map_append]; rfl, ?_⟩
        rw [msk_mut (by simp)]
        refine pr_app (pr_imp (fun _ _ z => z.mono (msk_mono (s14.trans sq))) hqs) (.cons ⟨m, ?_, (hdn.mono (fr_msk live13)).mono (msk_mono sq)⟩ .nil)
        have nq : q0 ∉ L :: sp :: M := fun z => dom_same s14 q0 (live13 q0 z) hq0
        rw [msk_at nq, upd_same]
      refine ⟨rfl, yesT ⟨_, rfl, _, rfl, _, rfl, rfl, _, rfl, ?_⟩⟩
      by_cases hnm2 : pk.1 = nm
      · rw [decide_eq_true (show kV (.inr pk.1) = V.str nm by rw [hnm2]; rfl)]
        refine iteT ⟨_, rfl, lk 2 (by decide), fun m hm => ⟨lk 2 (by decide), fun q0 hq0 => ⟨qs.map V.ref, (same_upd hq0) _ _ ((same_upd hm) _ _ hq), szlt _ (by rw [List.length_map]; omega), ?_⟩⟩⟩
        refine out _ m (same_upd hm) ?_ q0 hq0
        rw [if_pos hnm2]
        show Fr H13 _ m = _
        have nm13 : H13 m = none := hm
        unfold Fr
        rw [if_pos nm13]
        exact upd_same
      · rw [decide_eq_false (show ¬ kV (.inr pk.1) = V.str nm from fun z => hnm2 (V.str.inj z))]
        have hs13 := hsf.grow s12
        refine iteF ⟨_, rfl, sv, r'.dx, _, rfl, hs13.ins, rfl, _, rfl, _, rfl, _, _, rfl, rfl, sv, sp :: M, ks, _, r', pk.1, pk.2, S.deltas.length, R, Lt, ?_, hs13, hka pk (List.mem_of_getElem? hpk), ?_, ?_, hdn.symm, ?_, fun H14 m s14 hdm => ⟨lk 2 (by decide), fun q0 hq0 => ⟨qs.map V.ref, (same_upd hq0) _ _ (s14 _ _ hq), szlt _ (by rw [List.length_map]; omega), ?_⟩⟩⟩
        · show [V.ref sv, V.str pk.1, V.int (((S.deltas.length + 1 : Nat) : Int) - 1)] = _
          rw [show ((S.deltas.length + 1 : Nat) : Int) - 1 = ((S.deltas.length : Nat) : Int) by omega]
        · show (S.deltas ++ [R])[S.deltas.length]? = _
          rw [List.getElem?_append_right (Nat.le_refl _), Nat.sub_self]
          rfl
        · show (S.texts ++ [app R Lt])[S.deltas.length]? = _
          rw [List.getElem?_append_left (by have := hok.n; omega), ← hL']
          unfold svLast
          rw [List.getD_eq_getElem?_getD, List.getElem?_eq_getElem (by have := hok.n; omega)]
          rfl
        · rw [← hL']
          unfold svLast
          rw [List.getD_eq_getElem?_getD, List.getElem?_eq_getElem (by have := hok.n; omega)]
          have := (hok.t _ (List.getElem_mem (l := S.texts) (n := S.deltas.length) (by have := hok.n; omega))).l
          show (S.texts[S.deltas.length]'_).length ≤ _
          omega
        · refine out _ m s14 ?_ q0 hq0
          rw [if_neg hnm2]
          exact hdm
    · rintro H12 ⟨s12, qs, hq, hqs⟩
      rw [hkv, List.take_length] at hqs
      have s11 : Same H11 (upd H12 r'.kd (.dK (kvOf ks))) := fun b u e => by
        by_cases nb : b = r'.kd
        · rw [nb, upd_same]
          rw [nb, hk11] at e
          exact e
        · rw [upd_ne nb]
          refine s12 _ _ ?_
          rw [← hHF, upd_ne nb]
          exact e
      refine ⟨s12 _ _ hkf, q _ r' L qs (s10.trans s11) (by rw [e1]; exact nH2sp) e2 e3 e4 e5 e6 (by rw [e1, show svSub S v D i = ⟨S.texts ++ [app R Lt], S.deltas ++ [R], S.auth ++ [i]⟩ by unfold svSub; rw [hR, hL']]; exact (hsf.grow s12).frz (.inl rfl)) ?_ ?_ (by rw [e1]; exact fun z => nLM (by rw [z]; exact List.mem_cons_self ..)) ?_ ?_⟩
      · rw [← e5]
        exact upd_same
      · have n1 : L ∉ [sv, r.tl, r.dl, r.al] := fun z => by
          simp only [List.mem_cons, List.not_mem_nil, or_false] at z
          rcases z with z | z | z | z
          · exact nLM (by rw [z]; exact hs10.sM)
          · exact nLM (by rw [z, ← e2]; exact hs10.tM)
          · exact nLM (by rw [z, ← e3]; exact hs10.dM)
          · exact nLM (by rw [z, ← e4]; exact hs10.aM)
        have := s10.free hL11
        rw [msk_at n1] at this
        exact this
      · rw [upd_ne nLk]
        exact hq
      · rw [e1, msk_mut (List.mem_cons_of_mem _ hsf.kM)]
        exact hqs
end
end Tc
/-! # How a company stands in the heap -/
namespace Tc
open PySem PySem.Spec PyProof.Rows L2
/-- one program with its queues -/
structure PgS where
  nm : Str
  k : Kd
  P : PS
  up : List (Nat × Dl × List Int)
  dn : List (Nat × List Int × Dn)
structure PgR where
  pg : Addr
  up : Addr
  dn : Addr
  r : PRec
structure PgAt (c : Cs) (H : Hp) (M : List Addr) (p : PgR) (x : PgS) : Prop where
  pr : PrAt c H M p.pg x.nm x.k x.P p.r
  uM : p.up ∈ M
  dM : p.dn ∈ M
  us : ∃ as : List Addr, H p.up = some (.lst (as.map V.ref)) ∧ Paired (UpAt c (Msk H M) x.nm x.k) as x.up
  ds : ∃ as : List Addr, H p.dn = some (.lst (as.map V.ref)) ∧ Paired (fun m (y : Nat × List Int × Dn) => DnAt c (Msk H M) x.k y.1 y.2.1 m y.2.2) as x.dn
structure CoS where
  S : SV
  ps : List PgS
structure CoR where
  dx : Addr
  s : Addr
  dp : Addr
  du : Addr
  dd : Addr
  sr : SRec
  pr : List PgR
def coF (r : CoR) : List (Str × V) := [("own_server", .ref r.s), ("programs", .ref r.dp), ("ups", .ref r.du), ("downs", .ref r.dd)]
def nmk (C : CoS) : List (Str × Kd) := C.ps.map fun x => (x.nm, x.k)
def nmv (C : CoS) (as : List Addr) : List (Key × V) := ((C.ps.map (·.nm)).zip as).map fun q => (.inr q.1, .ref q.2)
/-- the cells that hold lists which grow and shrink -/
def lsOf (r : CoR) : List Addr := [r.sr.tl, r.sr.dl, r.sr.al] ++ (r.pr.map (·.up) ++ (r.pr.map (·.dn) ++ r.pr.map (·.r.bl)))
structure CoAt (c : Cs) (H : Hp) (M : List Addr) (co : Addr) (C : CoS) (r : CoR) : Prop where
  cM : co ∈ M
  pM : r.dp ∈ M
  uM : r.du ∈ M
  dM : r.dd ∈ M
  ins : H co = some (.ins c.co r.dx (coF r))
  sv : SvAt c H M r.s (nmk C) C.S r.sr
  kd : H r.sr.kd = some (.dK (kvOf (nmk C)))
  dp : H r.dp = some (.dK (nmv C (r.pr.map (·.pg))))
  du : H r.du = some (.dK (nmv C (r.pr.map (·.up))))
  dd : H r.dd = some (.dK (nmv C (r.pr.map (·.dn))))
  pg : Paired (PgAt c H M) r.pr C.ps
  ls : (lsOf r).Nodup
  nn : (C.ps.map (·.nm)).Nodup
  ok : ∀ x ∈ C.ps, NmOk x.nm
  dn : [r.sr.kd, r.sr.sp, r.dp, r.du, r.dd].Nodup
  au : r.sr.au.length = C.S.deltas.length
section
variable {c : Cs} {H H' H1 : Hp} {M M' : List Addr} {co : Addr} {C : CoS} {r : CoR} {p p' : PgR} {x x' : PgS} {i : Nat}
theorem PrAt.frame {a : Addr} {nm : Str} {k : Kd} {P : PS} {r : PRec} (h : PrAt c H M a nm k P r) (e1 : H' a = H a) (e2 : H' r.bl = H r.bl) (s : Same (Msk H M) (Msk H' M')) (sub : ∀ m ∈ M, m ∈ M') (live : ∀ m ∈ M', H' m ≠ none) : PrAt c H' M' a nm k P r :=
  ⟨sub _ h.aM, sub _ h.blM, live, e1.trans h.ins, h.base.mono s, h.own.mono s, h.sent.mono s, h.wait.mono s, e2.trans h.lst, pr_imp (fun _ _ z => z.mono s) h.backs⟩
theorem PgAt.frame (h : PgAt c H M p x) (e1 : H' p.pg = H p.pg) (e2 : H' p.r.bl = H p.r.bl) (e3 : H' p.up = H p.up) (e4 : H' p.dn = H p.dn) (s : Same (Msk H M) (Msk H' M')) (sub : ∀ m ∈ M, m ∈ M') (live : ∀ m ∈ M', H' m ≠ none) : PgAt c H' M' p x := by
  obtain ⟨hp, uM, dM, ⟨us, u1, u2⟩, ⟨ds, d1, d2⟩⟩ := h
  exact ⟨hp.frame e1 e2 s sub live, sub _ uM, sub _ dM, ⟨us, e3.trans u1, pr_imp (fun _ _ z => z.mono s) u2⟩, ⟨ds, e4.trans d1, pr_imp (fun _ _ z => z.mono s) d2⟩⟩
theorem SvAt.frame {s : Addr} {ks : List (Str × Kd)} {S : SV} {r : SRec} (h : SvAt c H M s ks S r) (e : ∀ b ∈ [s, r.tl, r.dl, r.al, r.kd, r.sp], H' b = H b) (g : Same (Msk H M) (Msk H' M')) (sub : ∀ m ∈ M, m ∈ M') (live : ∀ m ∈ M', H' m ≠ none) : SvAt c H' M' s ks S r := by
  refine ⟨sub _ h.sM, sub _ h.tM, sub _ h.dM, sub _ h.aM, sub _ h.kM, sub _ h.pM, h.td, h.ta, h.da, h.kp, live, (e _ (by simp)).trans h.ins, (e _ (by simp)).trans h.tls, pr_imp (fun _ _ z => z.mono g) h.tx, (e _ (by simp)).trans h.dls, pr_imp (fun _ _ z => z.mono g) h.dx_, (e _ (by simp)).trans h.als, h.aul, ?_, (e _ (by simp)).trans h.sps⟩
  have ek := e r.kd (by simp)
  rcases h.kds with z | ⟨o, z⟩
  · exact .inl (ek.trans z)
  · exact .inr ⟨o, ek.trans z⟩
theorem CoAt.at_ (h : CoAt c H M co C r) (hi : C.ps[i]? = some x) : ∃ p, r.pr[i]? = some p ∧ PgAt c H M p x := pr_at h.pg hi
theorem same_at {L : List Addr} {b : Addr} (s : Same (Msk H L) H') (n : b ∉ L) (hb : H b ≠ none) : H' b = H b := by
  cases e : H b with
  | none => exact absurd e hb
  | some u => exact s b u (by rw [msk_at n]; exact e)
/-- one cell is a list, the other not -/
theorem ne_li {a b C dx : Addr} {xs : List V} {fs : List (Str × V)} (h1 : H a = some (.lst xs)) (h2 : H b = some (.ins C dx fs)) : a ≠ b := fun z => by rw [z, h2] at h1; cases h1
theorem ne_ld {a b : Addr} {xs : List V} {kv : List (Key × V)} (h1 : H a = some (.lst xs)) (h2 : H b = some (.dK kv)) : a ≠ b := fun z => by rw [z, h2] at h1; cases h1
theorem ne_id {a b C dx : Addr} {fs : List (Str × V)} {kv : List (Key × V)} (h1 : H a = some (.ins C dx fs)) (h2 : H b = some (.dK kv)) : a ≠ b := fun z => by rw [z, h2] at h1; cases h1
theorem ne_nm {a b : Addr} {C C' dx dx' : Addr} {nm nm' : Str} {k k' : Kd} {v v' : Nat} {q q' : PRec} (h1 : H a = some (.ins C dx (prF nm k v q))) (h2 : H b = some (.ins C' dx' (prF nm' k' v' q'))) (n : nm ≠ nm') : a ≠ b := fun z => by
  rw [z, h2] at h1
  injection h1 with h1
  injection h1 with _ _ h3
  have := congrArg (fun l : List (Str × V) => l.head?.map Prod.snd) h3
  exact n (V.str.inj (Option.some.inj this)).symm
theorem ne_pc {a b : Addr} {C C' dx dx' : Addr} {nm : Str} {k : Kd} {v : Nat} {q : PRec} {fs : List (Str × V)} (h1 : H a = some (.ins C dx (prF nm k v q))) (h2 : H b = some (.ins C' dx' fs)) (n : fs.length ≠ 8) : a ≠ b := fun z => by
  rw [z, h2] at h1
  injection h1 with h1
  injection h1 with _ _ h3
  exact n (by rw [h3]; rfl)
theorem nodup_set1 {a : Addr} : ∀ {l : List Addr} {i : Nat}, l.Nodup → a ∉ l → (l.set i a).Nodup
  | [], _, h, _ => h
  | x :: r, 0, h, ha => by
    rw [List.nodup_cons] at h
    show (a :: r).Nodup
    rw [List.nodup_cons]
    exact ⟨fun z => ha (List.mem_cons_of_mem _ z), h.2⟩
  | x :: r, i + 1, h, ha => by
    rw [List.nodup_cons] at h
    show (x :: r.set i a).Nodup
    rw [List.nodup_cons]
    refine ⟨fun z => ?_, nodup_set1 h.2 fun z => ha (List.mem_cons_of_mem _ z)⟩
    rcases List.mem_or_eq_of_mem_set z with z | z
    · exact h.1 z
    · exact ha (by rw [← z]; exact List.mem_cons_self ..)
theorem nodup_set {l : List Addr} {i : Nat} {a b : Addr} (h : l.Nodup) (hb : l[i]? = some b) (ha : a = b ∨ a ∉ l) : (l.set i a).Nodup := by
  rcases ha with ha | ha
  · subst ha
    obtain ⟨h1, h2⟩ := List.getElem?_eq_some_iff.mp hb
    rw [← h2, List.set_getElem_self]
    exact h
  · exact nodup_set1 h ha
theorem pr_mk {α β : Type} {G : α → β → Prop} : ∀ {l : List α} {m : List β}, l.length = m.length → (∀ (j : Nat) (a : α) (b : β), l[j]? = some a → m[j]? = some b → G a b) → Paired G l m
  | [], [], _, _ => .nil
  | [], _ :: _, h, _ => by simp at h
  | _ :: _, [], h, _ => by simp at h
  | a :: l, b :: m, h, hg => .cons (hg 0 a b rfl rfl) (pr_mk (by simpa using h) fun j x y h1 h2 => hg (j + 1) x y (by simpa using h1) (by simpa using h2))
theorem map_set_same {α β : Type} {f : α → β} {l : List α} {i : Nat} {x x' : α} (h : l[i]? = some x) (e : f x' = f x) : (l.set i x').map f = l.map f := by
  rw [List.map_set, e]
  obtain ⟨h1, h2⟩ := List.getElem?_eq_some_iff.mp h
  have h3 : (l.map f)[i]'(by simpa using h1) = f x := by rw [List.getElem_map, h2]
  rw [← h3, List.set_getElem_self]
theorem nodup_at {α : Type} {l : List α} (h : l.Nodup) {i j : Nat} {a b : α} (hi : l[i]? = some a) (hj : l[j]? = some b) (n : i ≠ j) : a ≠ b := by
  induction l generalizing i j with
  | nil => simp at hi
  | cons x r ih =>
    rw [List.nodup_cons] at h
    cases i with
    | zero =>
      obtain rfl : x = a := by simpa using hi
      cases j with
      | zero => exact absurd rfl n
      | succ j => exact fun z => h.1 (by rw [z]; exact List.mem_of_getElem? (by simpa using hj))
    | succ i =>
      cases j with
      | zero =>
        obtain rfl : x = b := by simpa using hj
        exact fun z => h.1 (by rw [← z]; exact List.mem_of_getElem? (by simpa using hi))
      | succ j => exact ih h.2 (by simpa using hi) (by simpa using hj) (by omega)
/-- the lists of two programs, of the server and a program, are apart -/
structure Apart (r : CoR) : Prop where
  uu : ∀ (i j : Nat) (a b : PgR), r.pr[i]? = some a → r.pr[j]? = some b → i ≠ j → a.up ≠ b.up ∧ a.dn ≠ b.dn ∧ a.r.bl ≠ b.r.bl
  ud : ∀ a b : PgR, a ∈ r.pr → b ∈ r.pr → a.up ≠ b.dn ∧ a.up ≠ b.r.bl ∧ a.dn ≠ b.r.bl
  sv : ∀ a : PgR, a ∈ r.pr → ∀ y ∈ [r.sr.tl, r.sr.dl, r.sr.al], y ≠ a.up ∧ y ≠ a.dn ∧ y ≠ a.r.bl
theorem apart_of {r : CoR} (h : (lsOf r).Nodup) : Apart r := by
  unfold lsOf at h
  rw [List.nodup_append] at h
  obtain ⟨h1, h2, h3⟩ := h
  rw [List.nodup_append] at h2
  obtain ⟨h4, h5, h6⟩ := h2
  rw [List.nodup_append] at h5
  obtain ⟨h7, h8, h9⟩ := h5
  have mu : ∀ a, a ∈ r.pr → a.up ∈ r.pr.map (·.up) := fun a ha => List.mem_map.mpr ⟨a, ha, rfl⟩
  have md : ∀ a, a ∈ r.pr → a.dn ∈ r.pr.map (·.dn) := fun a ha => List.mem_map.mpr ⟨a, ha, rfl⟩
  have mb : ∀ a, a ∈ r.pr → a.r.bl ∈ r.pr.map (·.r.bl) := fun a ha => List.mem_map.mpr ⟨a, ha, rfl⟩
  refine ⟨fun i j a b ha hb n => ⟨nodup_at h4 (i := i) (j := j) (by rw [List.getElem?_map, ha]; rfl) (by rw [List.getElem?_map, hb]; rfl) n, nodup_at h7 (i := i) (j := j) (by rw [List.getElem?_map, ha]; rfl) (by rw [List.getElem?_map, hb]; rfl) n, nodup_at h8 (i := i) (j := j) (by rw [List.getElem?_map, ha]; rfl) (by rw [List.getElem?_map, hb]; rfl) n⟩,
    fun a b ha hb => ⟨h6 _ (mu a ha) _ (List.mem_append_left _ (md b hb)), h6 _ (mu a ha) _ (List.mem_append_right _ (mb b hb)), h9 _ (md a ha) _ (mb b hb)⟩,
    fun a ha y hy => ⟨h3 _ hy _ (List.mem_append_left _ (mu a ha)), h3 _ hy _ (List.mem_append_right _ (List.mem_append_left _ (md a ha))), h3 _ hy _ (List.mem_append_right _ (List.mem_append_right _ (mb a ha)))⟩⟩
theorem PgAt.uL (h : PgAt c H M p x) : ∃ xs, H p.up = some (.lst xs) := by
  obtain ⟨as, h1, _⟩ := h.us
  exact ⟨_, h1⟩
theorem PgAt.dL (h : PgAt c H M p x) : ∃ xs, H p.dn = some (.lst xs) := by
  obtain ⟨as, h1, _⟩ := h.ds
  exact ⟨_, h1⟩
/-- one program goes on -/
theorem CoAt.one (h : CoAt c H M co C r) (hi : C.ps[i]? = some x) (hp : r.pr[i]? = some p) (s : Same (Msk H [p.pg, p.up, p.dn, p.r.bl]) H') (e1 : p'.pg = p.pg) (e2 : p'.up = p.up) (e3 : p'.dn = p.dn) (nb : p'.r.bl = p.r.bl ∨ H p'.r.bl = none) (n1 : x'.nm = x.nm) (n2 : x'.k = x.k) (g : PgAt c H' (p'.r.bl :: M) p' x') :
    CoAt c H' (p'.r.bl :: M) co { C with ps := C.ps.set i x' } { r with pr := r.pr.set i p' } ∧ Same (Msk H M) (Msk H' (p'.r.bl :: M)) := by
  obtain ⟨p0, hp0, hpg⟩ := h.at_ hi
  obtain rfl : p0 = p := Option.some.inj (hp0.symm.trans hp)
  have ap := apart_of h.ls
  have mp : p0 ∈ r.pr := List.mem_of_getElem? hp
  obtain ⟨ux, hux⟩ := hpg.uL
  obtain ⟨dx, hdx⟩ := hpg.dL
  have hbl := hpg.pr.lst
  have hin := hpg.pr.ins
  have imm : Same (Msk H M) (Msk H' (p'.r.bl :: M)) := fun b u e => by
    have nM : b ∉ M := fun z => by rw [msk_in z] at e; cases e
    rw [msk_at nM] at e
    have nb2 : b ≠ p'.r.bl := fun z => by
      rcases nb with y | y
      · exact nM (by rw [z, y]; exact hpg.pr.blM)
      · rw [z, y] at e; cases e
    rw [msk_at (by simp; exact ⟨nb2, nM⟩)]
    refine s b u ?_
    rw [msk_at]
    · exact e
    · intro z
      simp only [List.mem_cons, List.not_mem_nil, or_false] at z
      rcases z with z | z | z | z
      · exact nM (by rw [z]; exact hpg.pr.aM)
      · exact nM (by rw [z]; exact hpg.uM)
      · exact nM (by rw [z]; exact hpg.dM)
      · exact nM (by rw [z]; exact hpg.pr.blM)
  have sub : ∀ m ∈ M, m ∈ p'.r.bl :: M := fun m hm => List.mem_cons_of_mem _ hm
  -- what is none of the four stands
  have keep : ∀ b, b ≠ p0.pg → b ≠ p0.up → b ≠ p0.dn → b ≠ p0.r.bl → H b ≠ none → H' b = H b := fun b a1 a2 a3 a4 a5 => same_at s (by simp; exact ⟨a1, a2, a3, a4⟩) a5
  have hd : ∀ b kv, H b = some (.dK kv) → H' b = H b := fun b kv e => keep b (ne_id hin e).symm (ne_ld hux e).symm (ne_ld hdx e).symm (ne_ld hbl e).symm (by rw [e]; intro z; cases z)
  have hsl : ∀ y ∈ [r.sr.tl, r.sr.dl, r.sr.al], ∀ xs, H y = some (.lst xs) → H' y = H y := fun y hy xs e => by
    obtain ⟨a1, a2, a3⟩ := ap.sv p0 mp y hy
    exact keep y (ne_li e hin) a1 a2 a3 (by rw [e]; intro z; cases z)
  have en : nmk { C with ps := C.ps.set i x' } = nmk C := map_set_same hi (by rw [n1, n2])
  have em : (C.ps.set i x').map (·.nm) = C.ps.map (·.nm) := map_set_same hi n1
  have ev : ∀ as, nmv { C with ps := C.ps.set i x' } as = nmv C as := fun as => by
    unfold nmv
    show ((((C.ps.set i x').map (·.nm)).zip as).map _) = _
    rw [em]
  have ep : (r.pr.set i p').map (·.pg) = r.pr.map (·.pg) := map_set_same hp e1
  have eu : (r.pr.set i p').map (·.up) = r.pr.map (·.up) := map_set_same hp e2
  have ed : (r.pr.set i p').map (·.dn) = r.pr.map (·.dn) := map_set_same hp e3
  refine ⟨⟨sub _ h.cM, sub _ h.pM, sub _ h.uM, sub _ h.dM, ?_, ?_, ?_, ?_, ?_, ?_, ?_, ?_, by show ((C.ps.set i x').map _).Nodup; rw [em]; exact h.nn, ?_, h.dn, h.au⟩, imm⟩
  · exact (keep co (ne_pc hin h.ins (by simp [coF])).symm (ne_li hux h.ins).symm (ne_li hdx h.ins).symm (ne_li hbl h.ins).symm (by rw [h.ins]; intro z; cases z)).trans h.ins
  · rw [en]
    refine h.sv.frame (fun b hb => ?_) imm sub g.pr.live
    simp only [List.mem_cons, List.not_mem_nil, or_false] at hb
    rcases hb with z | z | z | z | z | z <;> subst z
    · exact keep _ (ne_pc hin h.sv.ins (by simp [seF])).symm (ne_li hux h.sv.ins).symm (ne_li hdx h.sv.ins).symm (ne_li hbl h.sv.ins).symm (by rw [h.sv.ins]; intro z; cases z)
    · exact hsl _ (by simp) _ h.sv.tls
    · exact hsl _ (by simp) _ h.sv.dls
    · exact hsl _ (by simp) _ h.sv.als
    · exact hd _ _ h.kd
    · exact hd _ _ h.sv.sps
  · rw [en]
    exact (hd _ _ h.kd).trans h.kd
  · rw [ev]
    show H' r.dp = some (.dK (nmv C ((r.pr.set i p').map (·.pg))))
    rw [ep]
    exact (hd _ _ h.dp).trans h.dp
  · rw [ev]
    show H' r.du = some (.dK (nmv C ((r.pr.set i p').map (·.up))))
    rw [eu]
    exact (hd _ _ h.du).trans h.du
  · rw [ev]
    show H' r.dd = some (.dK (nmv C ((r.pr.set i p').map (·.dn))))
    rw [ed]
    exact (hd _ _ h.dd).trans h.dd
  · refine pr_mk (by simp [pr_len h.pg]) fun j a b ha hb => ?_
    have ha : (r.pr.set i p')[j]? = some a := ha
    have hb : (C.ps.set i x')[j]? = some b := hb
    by_cases hj : i = j
    · subst hj
      rw [List.getElem?_set_self (List.getElem?_eq_some_iff.mp hp).1] at ha
      rw [List.getElem?_set_self (List.getElem?_eq_some_iff.mp hi).1] at hb
      obtain rfl := Option.some.inj ha
      obtain rfl := Option.some.inj hb
      exact g
    · rw [List.getElem?_set_ne hj] at ha hb
      obtain ⟨a2, ha2, hab⟩ := h.at_ hb
      obtain rfl : a2 = a := Option.some.inj (ha2.symm.trans ha)
      have ma : a2 ∈ r.pr := List.mem_of_getElem? ha
      have nnm : b.nm ≠ x.nm := nodup_at h.nn (i := j) (j := i) (by rw [List.getElem?_map, hb]; rfl) (by rw [List.getElem?_map, hi]; rfl) (fun z => hj z.symm)
      obtain ⟨u1, u2, u3⟩ := ap.uu j i a2 p0 ha hp (fun z => hj z.symm)
      obtain ⟨v1, v2, v3⟩ := ap.ud a2 p0 ma mp
      obtain ⟨w1, w2, w3⟩ := ap.ud p0 a2 mp ma
      obtain ⟨ua, hua⟩ := hab.uL
      obtain ⟨da, hda⟩ := hab.dL
      refine hab.frame (keep _ (ne_nm hab.pr.ins hin nnm) (ne_li hux hab.pr.ins).symm (ne_li hdx hab.pr.ins).symm (ne_li hbl hab.pr.ins).symm (by rw [hab.pr.ins]; intro z; cases z)) (keep _ (ne_li hab.pr.lst hin) w2.symm w3.symm u3 (by rw [hab.pr.lst]; intro z; cases z))
        (keep _ (ne_li hua hin) u1 v1 v2 (by rw [hua]; intro z; cases z)) (keep _ (ne_li hda hin) w1.symm u2 v3 (by rw [hda]; intro z; cases z)) imm sub g.pr.live
  · have hls := h.ls
    unfold lsOf at hls ⊢
    show ([r.sr.tl, r.sr.dl, r.sr.al] ++ ((r.pr.set i p').map (·.up) ++ ((r.pr.set i p').map (·.dn) ++ (r.pr.set i p').map (·.r.bl)))).Nodup
    rw [eu, ed]
    have hml : (r.pr.set i p').map (·.r.bl) = (r.pr.map (·.r.bl)).set i p'.r.bl := List.map_set
    have hil := (List.getElem?_eq_some_iff.mp hp).1
    have key : ([r.sr.tl, r.sr.dl, r.sr.al] ++ (r.pr.map (·.up) ++ (r.pr.map (·.dn) ++ (r.pr.map (·.r.bl)).set i p'.r.bl))) = ([r.sr.tl, r.sr.dl, r.sr.al] ++ (r.pr.map (·.up) ++ (r.pr.map (·.dn) ++ r.pr.map (·.r.bl)))).set (3 + (r.pr.length + (r.pr.length + i))) p'.r.bl := by
      rw [List.set_append_right _ _ (by simp), List.set_append_right _ _ (by simp <;> omega), List.set_append_right _ _ (by simp <;> omega)]
      simp
    rw [hml, key]
    refine nodup_set (b := p0.r.bl) hls ?_ ?_
    · rw [List.getElem?_append_right (by simp), List.getElem?_append_right (by simp <;> omega), List.getElem?_append_right (by simp <;> omega), List.getElem?_map]
      have : 3 + (r.pr.length + (r.pr.length + i)) - [r.sr.tl, r.sr.dl, r.sr.al].length - (r.pr.map (·.up)).length - (r.pr.map (·.dn)).length = i := by simp <;> omega
      rw [this, hp]
      rfl
    · rcases nb with y | y
      · exact .inl y
      · refine .inr fun z => ?_
        have hl : ∀ b ∈ lsOf r, H b ≠ none := fun b hb => by
          unfold lsOf at hb
          simp only [List.mem_append, List.mem_cons, List.not_mem_nil, or_false, List.mem_map] at hb
          rcases hb with (z | z | z) | ⟨q, hq, z⟩ | ⟨q, hq, z⟩ | ⟨q, hq, z⟩
          · rw [z, h.sv.tls]; intro y; cases y
          · rw [z, h.sv.dls]; intro y; cases y
          · rw [z, h.sv.als]; intro y; cases y
          all_goals
            obtain ⟨j, hj⟩ := List.getElem?_of_mem hq
            obtain ⟨xq, hxq, hqq⟩ := pr_at2 h.pg hj
          · obtain ⟨xs, e⟩ := hqq.uL; rw [← z, e]; intro y; cases y
          · obtain ⟨xs, e⟩ := hqq.dL; rw [← z, e]; intro y; cases y
          · rw [← z, hqq.pr.lst]; intro y; cases y
        exact hl _ z y
  · intro y hy
    have hy : y ∈ C.ps.set i x' := hy
    rcases List.mem_or_eq_of_mem_set hy with z | z
    · exact h.ok y z
    · rw [z, n1]
      exact h.ok x (List.mem_of_getElem? hi)
end
end Tc
/-! # The walks: a company, what is read -/
namespace Tc
open PySem PySem.Spec PyProof.Rows L2
theorem valV_nd : ∀ {kvs : List (Key × V)} {i : Nat} {k : Key} {v : V}, (kvs.map (·.1)).Nodup → kvs[i]? = some (k, v) → valV kvs k = some v
  | [], _, _, _, _, h => by simp at h
  | a :: r, 0, k, v, _, h => by
    obtain rfl : a = (k, v) := by simpa using h
    exact valV_pos rfl
  | a :: r, i + 1, k, v, hn, h => by
    rw [List.map_cons, List.nodup_cons] at hn
    have h2 : r[i]? = some (k, v) := by simpa using h
    rw [valV_neg fun z => hn.1 (by rw [z]; exact List.mem_map.mpr ⟨(k, v), List.mem_of_getElem? h2, rfl⟩)]
    exact valV_nd hn.2 h2
theorem nmv_keys {C : CoS} {as : List Addr} (hl : as.length = C.ps.length) : (nmv C as).map (·.1) = (C.ps.map (·.nm)).map Sum.inr := by
  unfold nmv
  rw [List.map_map]
  have : ((C.ps.map (·.nm)).zip as).map (fun q => q.1) = C.ps.map (·.nm) := by
    rw [List.map_fst_zip]
    rw [List.length_map, hl]
    exact Nat.le_refl _
  conv => rhs; rw [← this]
  rw [List.map_map]
  rfl
theorem nmv_at {C : CoS} {as : List Addr} {i : Nat} {x : PgS} {a : Addr} (hi : C.ps[i]? = some x) (ha : as[i]? = some a) : (nmv C as)[i]? = some (.inr x.nm, .ref a) := by
  unfold nmv
  rw [List.getElem?_map]
  have h : ((C.ps.map (·.nm)).zip as)[i]? = some (x.nm, a) := List.getElem?_zip_eq_some.mpr ⟨by rw [List.getElem?_map, hi]; rfl, ha⟩
  rw [h]
  rfl
theorem nodup_inr : ∀ {l : List Str}, l.Nodup → (l.map (Sum.inr : Str → Key)).Nodup
  | [], _ => List.nodup_nil
  | a :: r, h => by
    rw [List.nodup_cons] at h
    rw [List.map_cons, List.nodup_cons]
    refine ⟨fun z => ?_, nodup_inr h.2⟩
    obtain ⟨b, hb, e⟩ := List.mem_map.mp z
    exact h.1 (by rw [← Sum.inr.inj e]; exact hb)
theorem nmv_get {C : CoS} {as : List Addr} {i : Nat} {x : PgS} {a : Addr} (nn : (C.ps.map (·.nm)).Nodup) (hl : as.length = C.ps.length) (hi : C.ps[i]? = some x) (ha : as[i]? = some a) : valV (nmv C as) (.inr x.nm) = some (.ref a) := by
  refine valV_nd (i := i) ?_ (nmv_at hi ha)
  rw [nmv_keys hl]
  exact nodup_inr nn
section
variable {c : Cs} {H : Hp} {M : List Addr} {co : Addr} {C : CoS} {r : CoR} {p : PgR} {x : PgS} {i : Nat}
theorem CoAt.gp (h : CoAt c H M co C r) (hi : C.ps[i]? = some x) (hp : r.pr[i]? = some p) : DGet H r.dp (.str x.nm) (some (.ref p.pg)) :=
  .inl ⟨_, .inr x.nm, .inl h.dp, rfl, (nmv_get h.nn (by rw [List.length_map]; exact pr_len h.pg) hi (by rw [List.getElem?_map, hp]; rfl)).symm⟩
theorem CoAt.gu (h : CoAt c H M co C r) (hi : C.ps[i]? = some x) (hp : r.pr[i]? = some p) : DGet H r.du (.str x.nm) (some (.ref p.up)) :=
  .inl ⟨_, .inr x.nm, .inl h.du, rfl, (nmv_get h.nn (by rw [List.length_map]; exact pr_len h.pg) hi (by rw [List.getElem?_map, hp]; rfl)).symm⟩
theorem CoAt.gd (h : CoAt c H M co C r) (hi : C.ps[i]? = some x) (hp : r.pr[i]? = some p) : DGet H r.dd (.str x.nm) (some (.ref p.dn)) :=
  .inl ⟨_, .inr x.nm, .inl h.dd, rfl, (nmv_get h.nn (by rw [List.length_map]; exact pr_len h.pg) hi (by rw [List.getElem?_map, hp]; rfl)).symm⟩
theorem SvAt.last {s : Addr} {ks : List (Str × Kd)} {S : SV} {r : SRec} (h : SvAt c H M s ks S r) (n : S.texts ≠ []) : ∃ a t, r.ts[r.ts.length - 1]? = some a ∧ S.texts[S.texts.length - 1]? = some t ∧ TextAt c (Msk H M) a t := by
  have hl := pr_len h.tx
  have : 0 < S.texts.length := List.length_pos_iff.mpr n
  have e : S.texts[S.texts.length - 1]? = some (S.texts[S.texts.length - 1]'(by omega)) := List.getElem?_eq_getElem (by omega)
  obtain ⟨a, ha, hT⟩ := pr_at h.tx e
  exact ⟨a, _, by rw [hl]; exact ha, e, hT⟩
end
section
variable {P : Program} {w : World} {K : PySem.W.Frag} {mg : Str → Option Value} {base : Heap} {c : Cs}
/- Company.version: 0 self -/
theorem sc_Company_version : FnScope ["self"] ["self"] (defScope s_Company_version) := ⟨rfl, rfl, rfl, by decide +kernel, rfl, by decide +kernel, by decide +kernel⟩
theorem bi_Company_version : BindsB "version" "Company.version" s_Company_version ["self"] := fun _ _ _ _ _ _ us hl => match us, hl with | [_], _ => rfl
def spCoVersion (c : Cs) : Sp := fun vs H Q _ => ∃ co M C r, vs = [.ref co] ∧ CoAt c H M co C r ∧ Q (.int (C.S.deltas.length : Nat)) H
theorem ok_Company_version (T : Txt K mg c) : PF P w K mg base 1 c.co "version" (spCoVersion c) := by
  refine T.d_Company_version.pf sc_Company_version bi_Company_version (fun vs H Q E h => ?_) (fun f cdv A outer s H vs Q E hr h => ?_)
  · obtain ⟨co, M, C, r, rfl, _⟩ := h
    rfl
  · obtain ⟨co, M, C, r, rfl, hc, q⟩ := h
    refine ⟨_, (pss_one (ps_ret (pe_callB call_len_seq (by rfl) T.z_len (by decide +kernel) (pa_cons (pe_fld (pe_fld (pv 0) rfl) rfl) pa_nil)))), ?_⟩
    refine ⟨_, rfl, co, c.co, r.dx, _, .ref r.s, rfl, hc.ins, T.cl_co, T.n_co_own_server, rfl, r.s, c.se, r.sr.dx, _, .ref r.sr.dl, rfl, hc.sv.ins, T.cl_se, T.n_se_deltas, rfl, r.sr.dl, _, rfl, .inl (SqL.of hc.sv.dls), ?_⟩
    rw [List.length_map, pr_len hc.sv.dx_]
    exact q
/- Company.server_text: 0 self, 1 version -/
theorem sc_Company_server_text : FnScope ["self", "version"] ["self", "version"] (defScope s_Company_server_text) := ⟨rfl, rfl, rfl, by decide +kernel, rfl, by decide +kernel, by decide +kernel⟩
def spCoSText (c : Cs) : Sp := fun vs H Q _ => ∃ co M C r a, vs = [.ref co, .non] ∧ CoAt c H M co C r ∧ r.sr.ts[r.sr.ts.length - 1]? = some a ∧ Q (.ref a) H
theorem ok_Company_server_text (T : Txt K mg c) (G_Server_text : MF P w K mg base 3 c.se "text" ["self", "version"] [] (spSvText c)) : MF P w K mg base 4 c.co "server_text" ["self", "version"] [.non] (spCoSText c) := by
  refine T.d_Company_server_text.mf1 sc_Company_server_text 1 rfl (fun _ _ _ _ _ _ _ us its h1 h2 => match us, its, h1, h2 with | [_], [_], _, _ => ⟨_, rfl, rfl⟩) (fun vs H Q E h => ?_) (fun f cdv A outer s H vs Q E hr h => ?_)
  · obtain ⟨co, M, C, r, a, rfl, _⟩ := h
    rfl
  · obtain ⟨co, M, C, r, a, rfl, hc, ha, q⟩ := h
    refine ⟨_, (pss_one (ps_ret (pe_mf G_Server_text T.cl_se hr (pe_fld (pv 0) rfl) (pa_cons (pv 1) pa_nil)))), ?_⟩
    exact ⟨_, rfl, co, c.co, r.dx, _, .ref r.s, rfl, hc.ins, T.cl_co, T.n_co_own_server, rfl, r.s, r.sr.dx, _, rfl, hc.sv.ins, rfl, _, rfl, r.s, M, nmk C, C.S, r.sr, a, rfl, hc.sv, ha, q⟩
/- Company.program: 0 self, 1 name -/
theorem sc_Company_program : FnScope ["self", "name"] ["self", "name"] (defScope s_Company_program) := ⟨rfl, rfl, rfl, by decide +kernel, rfl, by decide +kernel, by decide +kernel⟩
theorem bi_Company_program : BindsB "program" "Company.program" s_Company_program ["self", "name"] := fun _ _ _ _ _ _ us hl => match us, hl with | [_, _], _ => rfl
def spCoProg (c : Cs) : Sp := fun vs H Q _ => ∃ (co : Addr) (M : List Addr) (C : CoS) (r : CoR) (x : PgS) (p : PgR) (i : Nat), vs = [.ref co, .str x.nm] ∧ CoAt c H M co C r ∧ C.ps[i]? = some x ∧ r.pr[i]? = some p ∧ Q (.ref p.pg) H
theorem ok_Company_program (T : Txt K mg c) (G_is_name : GF P w K mg base 1 "is_name" ["value"] spIsName) : MF P w K mg base 2 c.co "program" ["self", "name"] [] (spCoProg c) := by
  refine T.d_Company_program.mf sc_Company_program bi_Company_program (fun vs H Q E h => ?_) (fun f cdv A outer s H vs Q E hr h => ?_)
  · obtain ⟨co, M, C, r, x, p, i, rfl, _⟩ := h
    rfl
  · obtain ⟨co, M, C, r, x, p, i, rfl, hc, hi, hp, q⟩ := h
    refine ⟨_, (pss_cons (ps_if (PW.pt (pw_or (pt_not (pt_val (pe_gf G_is_name hr (pa_cons (pv 1) pa_nil)))) (pw_or1 (pt_cmp (pc_dnotin (hu1 hr) (pv 1) (pe_fld (pv 0) rfl)))))) (pss_one ps_never) pss_nil)
      (pss_one (ps_ret (pe_dget (hu1 hr) (pe_fld (pv 0) rfl) (pv 1) (fun _ _ => rfl))))), ?_⟩
    have hg := hc.gp hi hp
    refine ⟨_, rfl, x.nm, rfl, hc.ok x (List.mem_of_getElem? hi), true, rfl, iteF ?_⟩
    refine ⟨_, rfl, _, rfl, co, c.co, r.dx, _, .ref r.dp, rfl, hc.ins, T.cl_co, T.n_co_programs, rfl, r.dp, _, rfl, hg, false, rfl, iteF ?_⟩
    exact ⟨_, rfl, co, c.co, r.dx, _, .ref r.dp, rfl, hc.ins, T.cl_co, T.n_co_programs, rfl, _, rfl, r.dp, _, rfl, hg, q⟩
/- Company.text: 0 self, 1 name -/
theorem sc_Company_text : FnScope ["self", "name"] ["self", "name"] (defScope s_Company_text) := ⟨rfl, rfl, rfl, by decide +kernel, rfl, by decide +kernel, by decide +kernel⟩
theorem bi_Company_text : BindsB "text" "Company.text" s_Company_text ["self", "name"] := fun _ _ _ _ _ _ us hl => match us, hl with | [_, _], _ => rfl
def spCoText (c : Cs) : Sp := fun vs H Q _ => ∃ (co : Addr) (M : List Addr) (C : CoS) (r : CoR) (x : PgS) (p : PgR) (i : Nat), vs = [.ref co, .str x.nm] ∧ CoAt c H M co C r ∧ C.ps[i]? = some x ∧ r.pr[i]? = some p ∧ Q (.ref p.r.o) H
theorem ok_Company_text (T : Txt K mg c) (G_Company_program : MF P w K mg base 2 c.co "program" ["self", "name"] [] (spCoProg c)) (G_Program_text : MF P w K mg base 1 c.pr "text" ["self"] [] (spPrText c)) : MF P w K mg base 3 c.co "text" ["self", "name"] [] (spCoText c) := by
  refine T.d_Company_text.mf sc_Company_text bi_Company_text (fun vs H Q E h => ?_) (fun f cdv A outer s H vs Q E hr h => ?_)
  · obtain ⟨co, M, C, r, x, p, i, rfl, _⟩ := h
    rfl
  · obtain ⟨co, M, C, r, x, p, i, rfl, hc, hi, hp, q⟩ := h
    refine ⟨_, (pss_one (ps_ret (pe_mf0 G_Program_text T.cl_pr hr (pe_mf G_Company_program T.cl_co hr (pv 0) (pa_cons (pv 1) pa_nil))))), ?_⟩
    obtain ⟨p0, hp0, hpg⟩ := hc.at_ hi
    obtain rfl : p0 = p := Option.some.inj (hp0.symm.trans hp)
    exact ⟨_, rfl, co, r.dx, _, rfl, hc.ins, rfl, _, rfl, co, M, C, r, x, p0, i, rfl, hc, hi, hp, p0.pg, p0.r.dx, _, rfl, hpg.pr.ins, rfl, p0.pg, M, x.nm, x.k, x.P, p0.r, rfl, hpg.pr, q⟩
/- Company.base: 0 self, 1 name -/
theorem sc_Company_base : FnScope ["self", "name"] ["self", "name"] (defScope s_Company_base) := ⟨rfl, rfl, rfl, by decide +kernel, rfl, by decide +kernel, by decide +kernel⟩
theorem bi_Company_base : BindsB "base" "Company.base" s_Company_base ["self", "name"] := fun _ _ _ _ _ _ us hl => match us, hl with | [_, _], _ => rfl
def spCoBase (c : Cs) : Sp := fun vs H Q _ => ∃ (co : Addr) (M : List Addr) (C : CoS) (r : CoR) (x : PgS) (p : PgR) (i : Nat), vs = [.ref co, .str x.nm] ∧ CoAt c H M co C r ∧ C.ps[i]? = some x ∧ r.pr[i]? = some p ∧ Q (.ref p.r.b) H
theorem ok_Company_base (T : Txt K mg c) (G_Company_program : MF P w K mg base 2 c.co "program" ["self", "name"] [] (spCoProg c)) (G_Program_base : MF P w K mg base 1 c.pr "base" ["self"] [] (spPrBase c)) : MF P w K mg base 3 c.co "base" ["self", "name"] [] (spCoBase c) := by
  refine T.d_Company_base.mf sc_Company_base bi_Company_base (fun vs H Q E h => ?_) (fun f cdv A outer s H vs Q E hr h => ?_)
  · obtain ⟨co, M, C, r, x, p, i, rfl, _⟩ := h
    rfl
  · obtain ⟨co, M, C, r, x, p, i, rfl, hc, hi, hp, q⟩ := h
    refine ⟨_, (pss_one (ps_ret (pe_mf0 G_Program_base T.cl_pr hr (pe_mf G_Company_program T.cl_co hr (pv 0) (pa_cons (pv 1) pa_nil))))), ?_⟩
    obtain ⟨p0, hp0, hpg⟩ := hc.at_ hi
    obtain rfl : p0 = p := Option.some.inj (hp0.symm.trans hp)
    exact ⟨_, rfl, co, r.dx, _, rfl, hc.ins, rfl, _, rfl, co, M, C, r, x, p0, i, rfl, hc, hi, hp, p0.pg, p0.r.dx, _, rfl, hpg.pr.ins, rfl, p0.pg, M, x.nm, x.k, x.P, p0.r, rfl, hpg.pr, q⟩
/- Company.version_of: 0 self, 1 name -/
theorem sc_Company_version_of : FnScope ["self", "name"] ["self", "name"] (defScope s_Company_version_of) := ⟨rfl, rfl, rfl, by decide +kernel, rfl, by decide +kernel, by decide +kernel⟩
theorem bi_Company_version_of : BindsB "version_of" "Company.version_of" s_Company_version_of ["self", "name"] := fun _ _ _ _ _ _ us hl => match us, hl with | [_, _], _ => rfl
def spCoVer (c : Cs) : Sp := fun vs H Q _ => ∃ (co : Addr) (M : List Addr) (C : CoS) (r : CoR) (x : PgS) (p : PgR) (i : Nat), vs = [.ref co, .str x.nm] ∧ CoAt c H M co C r ∧ C.ps[i]? = some x ∧ r.pr[i]? = some p ∧ Q (.int (x.P.ver : Nat)) H
theorem ok_Company_version_of (T : Txt K mg c) (G_Company_program : MF P w K mg base 2 c.co "program" ["self", "name"] [] (spCoProg c)) (G_Program_version : PF P w K mg base 1 c.pr "version" (spPrVersion c)) : MF P w K mg base 3 c.co "version_of" ["self", "name"] [] (spCoVer c) := by
  refine T.d_Company_version_of.mf sc_Company_version_of bi_Company_version_of (fun vs H Q E h => ?_) (fun f cdv A outer s H vs Q E hr h => ?_)
  · obtain ⟨co, M, C, r, x, p, i, rfl, _⟩ := h
    rfl
  · obtain ⟨co, M, C, r, x, p, i, rfl, hc, hi, hp, q⟩ := h
    refine ⟨_, (pss_one (ps_ret (pe_pf G_Program_version T.cl_pr hr (pe_mf G_Company_program T.cl_co hr (pv 0) (pa_cons (pv 1) pa_nil))))), ?_⟩
    obtain ⟨p0, hp0, hpg⟩ := hc.at_ hi
    obtain rfl : p0 = p := Option.some.inj (hp0.symm.trans hp)
    exact ⟨_, rfl, co, r.dx, _, rfl, hc.ins, rfl, _, rfl, co, M, C, r, x, p0, i, rfl, hc, hi, hp, p0.pg, p0.r.dx, _, rfl, hpg.pr.ins, p0.pg, M, x.nm, x.k, x.P, p0.r, rfl, hpg.pr, q⟩
/- Company.queues: 0 self, 1 name -/
theorem sc_Company_queues : FnScope ["self", "name"] ["self", "name"] (defScope s_Company_queues) := ⟨rfl, rfl, rfl, by decide +kernel, rfl, by decide +kernel, by decide +kernel⟩
theorem bi_Company_queues : BindsB "queues" "Company.queues" s_Company_queues ["self", "name"] := fun _ _ _ _ _ _ us hl => match us, hl with | [_, _], _ => rfl
def spCoQ (c : Cs) : Sp := fun vs H Q _ => ∃ (co : Addr) (M : List Addr) (C : CoS) (r : CoR) (x : PgS) (i : Nat), vs = [.ref co, .str x.nm] ∧ CoAt c H M co C r ∧ C.ps[i]? = some x ∧ ∀ t, H t = none → Q (.ref t) (upd H t (.tup [.int (x.up.length : Nat), .int (x.dn.length : Nat)]))
theorem ok_Company_queues (T : Txt K mg c) (G_Company_program : MF P w K mg base 2 c.co "program" ["self", "name"] [] (spCoProg c)) : MF P w K mg base 3 c.co "queues" ["self", "name"] [] (spCoQ c) := by
  refine T.d_Company_queues.mf sc_Company_queues bi_Company_queues (fun vs H Q E h => ?_) (fun f cdv A outer s H vs Q E hr h => ?_)
  · obtain ⟨co, M, C, r, x, i, rfl, _⟩ := h
    rfl
  · obtain ⟨co, M, C, r, x, i, rfl, hc, hi, q⟩ := h
    refine ⟨_, (pss_cons (ps_expr (pe_mf G_Company_program T.cl_co hr (pv 0) (pa_cons (pv 1) pa_nil)))
      (pss_one (ps_ret (pe_tup (pa_cons (pe_callB call_len_seq (by rfl) T.z_len (by decide +kernel) (pa_cons (pe_dget (hu1 hr) (pe_fld (pv 0) rfl) (pv 1) (fun _ _ => rfl)) pa_nil)) (pa_cons (pe_callB call_len_seq (by rfl) T.z_len (by decide +kernel) (pa_cons (pe_dget (hu1 hr) (pe_fld (pv 0) rfl) (pv 1) (fun _ _ => rfl)) pa_nil)) pa_nil)))))), ?_⟩
    obtain ⟨p, hp, hpg⟩ := hc.at_ hi
    obtain ⟨us, hu1, hu2⟩ := hpg.us
    obtain ⟨ds, hd1, hd2⟩ := hpg.ds
    refine ⟨_, rfl, co, r.dx, _, rfl, hc.ins, rfl, _, rfl, co, M, C, r, x, p, i, rfl, hc, hi, hp, ?_⟩
    refine ⟨_, rfl, co, c.co, r.dx, _, .ref r.du, rfl, hc.ins, T.cl_co, T.n_co_ups, rfl, _, rfl, r.du, _, rfl, hc.gu hi hp, p.up, _, rfl, .inl (SqL.of hu1), ?_⟩
    refine ⟨_, rfl, co, c.co, r.dx, _, .ref r.dd, rfl, hc.ins, T.cl_co, T.n_co_downs, rfl, _, rfl, r.dd, _, rfl, hc.gd hi hp, p.dn, _, rfl, .inl (SqL.of hd1), lk 2 (by decide), fun t ht => ?_⟩
    rw [List.length_map, List.length_map, pr_len hu2, pr_len hd2]
    exact q t ht
end
end Tc
/-! # The walks: a company, one program goes on -/
namespace Tc
open PySem PySem.Spec PyProof.Rows L2
section
variable {c : Cs} {H H' : Hp} {M M' : List Addr} {co : Addr} {C : CoS} {r : CoR} {p p' : PgR} {x x' : PgS} {i : Nat}
theorem PgAt.grow {H1 : Hp} (h : PgAt c H M p x) (g : Same H H1) : PgAt c H1 M p x := by
  obtain ⟨hp, uM, dM, ⟨us, u1, u2⟩, ⟨ds, d1, d2⟩⟩ := h
  exact ⟨hp.grow g, uM, dM, ⟨us, g _ _ u1, pr_imp (fun _ _ z => z.mono (msk_mono g)) u2⟩, ⟨ds, g _ _ d1, pr_imp (fun _ _ z => z.mono (msk_mono g)) d2⟩⟩
theorem CoAt.grow {H1 : Hp} (h : CoAt c H M co C r) (g : Same H H1) : CoAt c H1 M co C r :=
  ⟨h.cM, h.pM, h.uM, h.dM, g _ _ h.ins, h.sv.grow g, g _ _ h.kd, g _ _ h.dp, g _ _ h.du, g _ _ h.dd, pr_imp (fun _ _ z => z.grow g) h.pg, h.ls, h.nn, h.ok, h.dn, h.au⟩
theorem imm_of {L : List Addr} {b : Addr} (s : Same (Msk H L) H') (hL : ∀ y ∈ L, y ∈ M) (hb : b ∈ M ∨ H b = none) : Same (Msk H M) (Msk H' (b :: M)) := fun y u e => by
  have nM : y ∉ M := fun z => by rw [msk_in z] at e; cases e
  rw [msk_at nM] at e
  have nb : y ≠ b := fun z => by
    rcases hb with w | w
    · exact nM (by rw [z]; exact w)
    · rw [z, w] at e; cases e
  rw [msk_at (by simp; exact ⟨nb, nM⟩)]
  refine s y u ?_
  rw [msk_at fun z => nM (hL y z)]
  exact e
theorem same_less {L L' : List Addr} (s : Same (Msk H L) H') (h : ∀ y ∈ L, y ∈ L') : Same (Msk H L') H' := (msk_less h).trans s
/-- a step of a program itself -/
theorem CoAt.prog {P' : PS} {r' : PRec} (h : CoAt c H M co C r) (hi : C.ps[i]? = some x) (hp : r.pr[i]? = some p) (s : Same (Msk H [p.pg, p.r.bl]) H') (nb : r'.bl = p.r.bl ∨ H r'.bl = none) (hP : PrAt c H' (r'.bl :: M) p.pg x.nm x.k P' r') :
    CoAt c H' (r'.bl :: M) co { C with ps := C.ps.set i { x with P := P' } } { r with pr := r.pr.set i { p with r := r' } } ∧ Same (Msk H M) (Msk H' (r'.bl :: M)) := by
  obtain ⟨p0, hp0, hpg⟩ := h.at_ hi
  obtain rfl : p0 = p := Option.some.inj (hp0.symm.trans hp)
  have ap := apart_of h.ls
  have mp : p0 ∈ r.pr := List.mem_of_getElem? hp
  obtain ⟨a1, a2, a3⟩ := ap.ud p0 p0 mp mp
  obtain ⟨us, hu1, hu2⟩ := hpg.us
  obtain ⟨ds, hd1, hd2⟩ := hpg.ds
  have imm : Same (Msk H M) (Msk H' (r'.bl :: M)) := imm_of s (by simp; exact ⟨hpg.pr.aM, hpg.pr.blM⟩) (nb.elim (fun z => .inl (by rw [z]; exact hpg.pr.blM)) .inr)
  have eu : H' p0.up = H p0.up := same_at s (by simp; exact ⟨ne_li hu1 hpg.pr.ins, a2⟩) (by rw [hu1]; intro z; cases z)
  have ed : H' p0.dn = H p0.dn := same_at s (by simp; exact ⟨ne_li hd1 hpg.pr.ins, a3⟩) (by rw [hd1]; intro z; cases z)
  exact h.one (p' := { p0 with r := r' }) (x' := { x with P := P' }) hi hp (same_less s (by simp)) rfl rfl rfl nb rfl rfl
    ⟨hP, List.mem_cons_of_mem _ hpg.uM, List.mem_cons_of_mem _ hpg.dM, ⟨us, eu.trans hu1, pr_imp (fun _ _ z => z.mono imm) hu2⟩, ⟨ds, ed.trans hd1, pr_imp (fun _ _ z => z.mono imm) hd2⟩⟩
end
def CoS.setP (C : CoS) (i : Nat) (x : PgS) : CoS := { C with ps := C.ps.set i x }
/-- what a step of the company promises -/
abbrev CoTo (c : Cs) (H : Hp) (M : List Addr) (co : Addr) (C' : CoS) (v : V) (Q : VK) : Prop := ∀ H' M' r', Same (Msk H M) (Msk H' M') → CoAt c H' M' co C' r' → Q v H'
section
variable {P : Program} {w : World} {K : PySem.W.Frag} {mg : Str → Option Value} {base : Heap} {c : Cs}
/- Company.edit: 0 self, 1 name, 2 edits -/
theorem sc_Company_edit : FnScope ["self", "name", "edits"] ["self", "name", "edits"] (defScope s_Company_edit) := ⟨rfl, rfl, rfl, by decide +kernel, rfl, by decide +kernel, by decide +kernel⟩
theorem bi_Company_edit : BindsB "edit" "Company.edit" s_Company_edit ["self", "name", "edits"] := fun _ _ _ _ _ _ us hl => match us, hl with | [_, _, _], _ => rfl
def spCoEdit (c : Cs) : Sp := fun vs H Q _ => ∃ (co el e cl : Addr) (M : List Addr) (C : CoS) (r : CoR) (x : PgS) (i b l : Nat) (cs : List Int), vs = [.ref co, .str x.nm, .ref el] ∧ CoAt c H M co C r ∧ C.ps[i]? = some x ∧ PsOk x.P ∧ H el = some (.lst [.ref e]) ∧ H e = some (.tup [.int (numAt (wd x.k) x.P.own b : Nat), .int (numAt (wd x.k) x.P.own l : Nat), .ref cl]) ∧ LAt H cl cs ∧ b ≤ l ∧ l ≤ x.P.own.length ∧ cs.length ≤ 600 ∧ (∀ y ∈ cs, ChOk y) ∧
  CoTo c H M co (C.setP i { x with P := psChange x.P (gaps (ed b l x.P.own.length cs)) }) .non Q
theorem ok_Company_edit (T : Txt K mg c) (G_Company_program : MF P w K mg base 2 c.co "program" ["self", "name"] [] (spCoProg c)) (G_Program_edit : MF P w K mg base 10 c.pr "edit" ["self", "edits"] [] (spPrEdit c)) : MF P w K mg base 11 c.co "edit" ["self", "name", "edits"] [] (spCoEdit c) := by
  refine T.d_Company_edit.mf sc_Company_edit bi_Company_edit (fun vs H Q E h => ?_) (fun f cdv A outer s H vs Q E hr h => ?_)
  · obtain ⟨co, el, e, cl, M, C, r, x, i, b, l, cs, rfl, _⟩ := h
    rfl
  · obtain ⟨co, el, e, cl, M, C, r, x, i, b, l, cs, rfl, hc, hi, hps, hel, he, hcl, hbl, hlo, hcs, hcc, q⟩ := h
    refine ⟨_, (pss_one (ps_expr (pe_mf G_Program_edit T.cl_pr hr (pe_mf G_Company_program T.cl_co hr (pv 0) (pa_cons (pv 1) pa_nil)) (pa_cons (pv 2) pa_nil)))), ?_⟩
    obtain ⟨p, hp, hpg⟩ := hc.at_ hi
    refine ⟨_, rfl, co, r.dx, _, rfl, hc.ins, rfl, _, rfl, co, M, C, r, x, p, i, rfl, hc, hi, hp, p.pg, p.r.dx, _, rfl, hpg.pr.ins, rfl, _, rfl, p.pg, el, e, cl, M, x.nm, x.k, x.P, p.r, b, l, cs, rfl, hpg.pr, hps, hel, he, hcl, hbl, hlo, hcs, hcc, fun H' r' s' e' hp' => ?_⟩
    have hd := hp'.dup (x := r'.bl) hp'.blM
    obtain ⟨h1, h2⟩ := hc.prog hi hp s' (.inl e') hd
    exact q _ _ _ h2 h1
/- Company.send: 0 self, 1 name, 2 message -/
theorem sc_Company_send : FnScope ["self", "name", "message"] ["self", "name"] (defScope s_Company_send) := ⟨rfl, rfl, rfl, by decide +kernel, rfl, by decide +kernel, by decide +kernel⟩
theorem bi_Company_send : BindsB "send" "Company.send" s_Company_send ["self", "name"] := fun _ _ _ _ _ _ us hl => match us, hl with | [_, _], _ => rfl
def spCoSend (c : Cs) : Sp := fun vs H Q _ => ∃ (co : Addr) (M : List Addr) (C : CoS) (r : CoR) (x : PgS) (i : Nat), vs = [.ref co, .str x.nm] ∧ CoAt c H M co C r ∧ C.ps[i]? = some x ∧ PsOk x.P ∧ x.up.length ≤ 1000 ∧
  ((x.P.wait = none ∨ x.P.sent ≠ none) → CoTo c H M co C (.bl false) Q) ∧ ∀ W, x.P.wait = some W → x.P.sent = none → CoTo c H M co (C.setP i { x with P := psSend x.P, up := x.up ++ [(x.P.ver, W, x.P.base)] }) (.bl true) Q
theorem ok_Company_send (T : Txt K mg c) (G_Company_program : MF P w K mg base 2 c.co "program" ["self", "name"] [] (spCoProg c)) (G_Program_send : MF P w K mg base 5 c.pr "send" ["self"] [] (spPrSend c)) : MF P w K mg base 6 c.co "send" ["self", "name"] [] (spCoSend c) := by
  refine T.d_Company_send.mf sc_Company_send bi_Company_send (fun vs H Q E h => ?_) (fun f cdv A outer s H vs Q E hr h => ?_)
  · obtain ⟨co, M, C, r, x, i, rfl, _⟩ := h
    rfl
  · obtain ⟨co, M, C, r, x, i, rfl, hc, hi, hps, hul, q1, q2⟩ := h
    refine ⟨_, (pss_cons (ps_set (i := 2) sc_Company_send.nd rfl (Or.inl rfl) (pe_mf0 G_Program_send T.cl_pr hr (pe_mf G_Company_program T.cl_co hr (pv 0) (pa_cons (pv 1) pa_nil))))
      (pss_cons (ps_if (pt_cmpR op_isN (pv 2) pe_non (nomark _)) (pss_one (ps_ret pe_bl)) pss_nil)
      (pss_cons (ps_expr (pe_bm PySem.F.plainAttrs_list PySem.F.slot_list_append PySem.F.type_list_append mt_append (pe_dget (hu1 hr) (pe_fld (pv 0) rfl) (pv 1) (fun _ _ => rfl)) (pa_cons (pv 2) pa_nil)))
      (pss_one (ps_ret pe_bl))))), ?_⟩
    obtain ⟨p, hp, hpg⟩ := hc.at_ hi
    have ap := apart_of hc.ls
    have mp : p ∈ r.pr := List.mem_of_getElem? hp
    obtain ⟨a1, a2, a3⟩ := ap.ud p p mp mp
    obtain ⟨us, hu1, hu2⟩ := hpg.us
    obtain ⟨ds, hd1, hd2⟩ := hpg.ds
    refine ⟨_, rfl, co, r.dx, _, rfl, hc.ins, rfl, _, rfl, co, M, C, r, x, p, i, rfl, hc, hi, hp, p.pg, p.r.dx, _, rfl, hpg.pr.ins, rfl, p.pg, M, x.nm, x.k, x.P, p.r, rfl, hpg.pr, hps, fun hno => ?_, fun W hW hS H1 r1 m s1 e1 hp1 hm => ?_⟩
    · refine ⟨_, rfl, rfl, _, rfl, ?_⟩
      rw [decide_eq_true (show V.non = V.non from rfl)]
      exact iteT (q1 hno _ _ _ same_refl hc)
    · refine ⟨_, rfl, rfl, _, rfl, ?_⟩
      rw [decide_eq_false (show ¬ V.ref m = V.non by intro z; cases z)]
      refine iteF ?_
      have imm1 : Same (Msk H M) (Msk H1 (r1.bl :: M)) := imm_of s1 (by simp; exact hpg.pr.aM) (.inl (by rw [e1]; exact hpg.pr.blM))
      have hm1 : r1.bl ∈ M := by rw [e1]; exact hpg.pr.blM
      have eM : ∀ Hx : Hp, Msk Hx (r1.bl :: M) = Msk Hx M := fun Hx => by
        funext b
        unfold Msk
        by_cases hb : b ∈ M
        · rw [if_pos hb, if_pos (List.mem_cons_of_mem _ hb)]
        · rw [if_neg hb, if_neg fun z => (List.mem_cons.mp z).elim (fun y => hb (by rw [y]; exact hm1)) hb]
      obtain ⟨hc1, _⟩ := hc.prog hi hp (same_less s1 (by simp)) (.inl e1) (hp1.dup hm1)
      have hi1 : (C.ps.set i { x with P := psSend x.P })[i]? = some { x with P := psSend x.P } := List.getElem?_set_self (List.getElem?_eq_some_iff.mp hi).1
      have hp1' : (r.pr.set i { p with r := r1 })[i]? = some { p with r := r1 } := List.getElem?_set_self (List.getElem?_eq_some_iff.mp hp).1
      have hgu := hc1.gu (i := i) hi1 hp1'
      have eu : H1 p.up = some (.lst (us.map V.ref)) := (same_at s1 (by simp; exact ne_li hu1 hpg.pr.ins) (by rw [hu1]; intro z; cases z)).trans hu1
      have ed : H1 p.dn = some (.lst (ds.map V.ref)) := (same_at s1 (by simp; exact ne_li hd1 hpg.pr.ins) (by rw [hd1]; intro z; cases z)).trans hd1
      refine ⟨_, rfl, co, c.co, r.dx, _, .ref r.du, rfl, hc1.ins, T.cl_co, T.n_co_ups, rfl, _, rfl, r.du, _, rfl, hgu, .inl ⟨rfl, _, SqL.of eu⟩, _, rfl, p.up, us.map V.ref, _, rfl, rfl, eu, szlt _ (by rw [List.length_map, pr_len hu2]; omega), ?_⟩
      -- the message stands in the queue
      have em : Msk (upd H1 p.up (.lst (us.map V.ref ++ [.ref m]))) M = Msk H1 M := msk_mut hpg.uM
      have sF : Same (Msk H [p.pg, p.up, p.dn, p.r.bl]) (upd H1 p.up (.lst (us.map V.ref ++ [.ref m]))) := fun b u e => by
        have nb : b ≠ p.up := fun z => by rw [z, msk_in (by simp)] at e; cases e
        rw [upd_ne nb]
        exact same_less s1 (L' := [p.pg, p.up, p.dn, p.r.bl]) (by simp) b u e
      have npu : p.pg ≠ p.up := (ne_li hu1 hpg.pr.ins).symm
      have hp2 : PrAt c (upd H1 p.up (.lst (us.map V.ref ++ [.ref m]))) (r1.bl :: M) p.pg x.nm x.k (psSend x.P) r1 := by
        refine (hp1.frame (M' := M) (upd_ne npu) (upd_ne (by rw [e1]; exact a2.symm)) (by rw [em]; exact same_refl) (fun _ z => z) (fun b hb => dom_upd b (hp1.live b hb))).dup hm1
      obtain ⟨h1, h2⟩ := hc.one (p' := { p with r := r1 }) (x' := { x with P := psSend x.P, up := x.up ++ [(x.P.ver, W, x.P.base)] }) hi hp sF rfl rfl rfl (.inl e1) rfl rfl
        ⟨hp2, List.mem_cons_of_mem _ hpg.uM, List.mem_cons_of_mem _ hpg.dM, ⟨us ++ [m], by rw [upd_same, List.map_append]; rfl, by
          rw [eM, em]
          rw [eM] at imm1
          exact pr_app (pr_imp (fun _ _ z => z.mono imm1) hu2) (.cons hm .nil)⟩, ⟨ds, by rw [upd_ne a1.symm]; exact ed, by
          rw [eM, em]
          rw [eM] at imm1
          exact pr_imp (fun _ _ z => z.mono imm1) hd2⟩⟩
      exact q2 W hW hS _ _ _ h2 h1
/- Company.deliver_down: 0 self, 1 name, 2 program, 3 message -/
theorem sc_Company_deliver_down : FnScope ["self", "name", "program", "message"] ["self", "name"] (defScope s_Company_deliver_down) := ⟨rfl, rfl, rfl, by decide +kernel, rfl, by decide +kernel, by decide +kernel⟩
theorem bi_Company_deliver_down : BindsB "deliver_down" "Company.deliver_down" s_Company_deliver_down ["self", "name"] := fun _ _ _ _ _ _ us hl => match us, hl with | [_, _], _ => rfl
def spCoDown (c : Cs) : Sp := fun vs H Q _ => ∃ (co : Addr) (M : List Addr) (C : CoS) (r : CoR) (x : PgS) (i : Nat) (dn : Dn) (rest : List (Nat × List Int × Dn)), vs = [.ref co, .str x.nm] ∧ CoAt c H M co C r ∧ C.ps[i]? = some x ∧ PsOk x.P ∧ x.P.ver < 1000000 ∧ x.dn = (x.P.ver + 1, x.P.base, dn) :: rest ∧ (match dn with | .ack => x.P.sent ≠ none | .chg D => D.ds.length = x.P.base.length ∧ DOk D) ∧
  ∀ m, CoTo c H M co (C.setP i { x with P := psRecv x.P dn, dn := rest }) m Q
theorem ok_Company_deliver_down (T : Txt K mg c) (G_Company_program : MF P w K mg base 2 c.co "program" ["self", "name"] [] (spCoProg c)) (G_Program_receive : MF P w K mg base 9 c.pr "receive" ["self", "message"] [] (spPrRecv c)) : MF P w K mg base 10 c.co "deliver_down" ["self", "name"] [] (spCoDown c) := by
  refine T.d_Company_deliver_down.mf sc_Company_deliver_down bi_Company_deliver_down (fun vs H Q E h => ?_) (fun f cdv A outer s H vs Q E hr h => ?_)
  · obtain ⟨co, M, C, r, x, i, dn, rest, rfl, _⟩ := h
    rfl
  · obtain ⟨co, M, C, r, x, i, dn, rest, rfl, hc, hi, hps, hver, hdn, hok, q⟩ := h
    refine ⟨_, (pss_cons (ps_set (i := 2) sc_Company_deliver_down.nd rfl (Or.inl rfl) (pe_mf G_Company_program T.cl_co hr (pv 0) (pa_cons (pv 1) pa_nil)))
      (pss_cons (ps_if (pt_cmpR (op_eqNil hr.units0) (pe_dget (hu1 hr) (pe_fld (pv 0) rfl) (pv 1) (fun _ _ => rfl)) (pe_lst pa_nil) (nomark _)) (pss_one ps_never) pss_nil)
      (pss_cons (ps_set (i := 3) sc_Company_deliver_down.nd rfl (Or.inl rfl) (pe_bm PySem.F.plainAttrs_list PySem.F.slot_list_pop PySem.F.type_list_pop mt_popAt (pe_dget (hu1 hr) (pe_fld (pv 0) rfl) (pv 1) (fun _ _ => rfl)) (pa_cons pe_int pa_nil)))
      (pss_cons (ps_expr (pe_mf G_Program_receive T.cl_pr hr (pv 2) (pa_cons (pv 3) pa_nil)))
      (pss_one (ps_ret (pv 3))))))), ?_⟩
    obtain ⟨p, hp, hpg⟩ := hc.at_ hi
    have ap := apart_of hc.ls
    have mp : p ∈ r.pr := List.mem_of_getElem? hp
    obtain ⟨a1, a2, a3⟩ := ap.ud p p mp mp
    obtain ⟨us, hu1, hu2⟩ := hpg.us
    obtain ⟨ds, hd1, hd2⟩ := hpg.ds
    rw [hdn] at hd2
    cases hd2 with
    | @cons m y ds' ys hm hd2 =>
    refine seq_join (fun σ H1 => σ = [some (.ref co), some (.str x.nm), some (.ref p.pg), none] ∧ H1 = H) (fun N hN => ⟨_, rfl, co, r.dx, _, rfl, hc.ins, rfl, _, rfl, co, M, C, r, x, p, i, rfl, hc, hi, hp, hN _ _ ⟨rfl, rfl⟩⟩) ?_
    rintro σ H1 ⟨rfl, rfl⟩
    refine seq_join (fun σ H2 => σ = [some (.ref co), some (.str x.nm), some (.ref p.pg), none] ∧ Same H1 H2) (fun N hN => ?_) ?_
    · refine ⟨_, rfl, co, c.co, r.dx, _, .ref r.dd, rfl, hc.ins, T.cl_co, T.n_co_downs, rfl, _, rfl, r.dd, _, rfl, hc.gd hi hp, lk 0 (by decide), fun e he => ⟨p.dn, e, _, rfl, rfl, SqL.of ((same_upd he) _ _ hd1), SqL.of upd_same, _, rfl, iteF (hN _ _ ⟨rfl, same_upd he⟩)⟩⟩
    rintro σ H2 ⟨rfl, s2⟩
    have hc2 := hc.grow s2
    have hpg2 := hpg.grow s2
    have hd12 := s2 _ _ hd1
    have ndp : p.dn ≠ p.pg := ne_li hd1 hpg.pr.ins
    have hp3 : PrAt c (upd H2 p.dn (.lst (ds'.map V.ref))) M p.pg x.nm x.k x.P p.r :=
      hpg2.pr.frame (M' := M) (upd_ne ndp.symm) (upd_ne a3.symm) (by rw [msk_mut hpg.dM]; exact same_refl) (fun _ z => z) (fun b hb => dom_upd b (hpg2.pr.live b hb))
    have hm3 : DnAt c (Msk (upd H2 p.dn (.lst (ds'.map V.ref))) M) x.k (x.P.ver + 1) x.P.base m dn := by
      rw [msk_mut hpg.dM]
      exact hm.mono (msk_mono s2)
    refine ⟨_, rfl, co, c.co, r.dx, _, .ref r.dd, rfl, hc2.ins, T.cl_co, T.n_co_downs, rfl, _, rfl, r.dd, _, rfl, hc2.gd hi hp, .inl ⟨rfl, _, SqL.of hd12⟩, p.dn, _, 0, 0, .ref m, rfl, rfl, hd12, by decide, by decide, (ixN_seq (ixN_of (i := 0) (by simp))).1, rfl, ?_⟩
    refine ⟨_, rfl, p.pg, p.r.dx, _, rfl, hp3.ins, rfl, _, rfl, p.pg, m, M, x.nm, x.k, x.P, p.r, dn, rfl, hp3, hps, hver, hm3, hok, fun H4 r4 s4 e4 hp4 => ⟨_, rfl, ?_⟩⟩
    have e4 : r4.bl = p.r.bl ∨ (upd H2 p.dn (.lst (ds'.map V.ref))) r4.bl = none := e4
    have s4 : Same (Msk (upd H2 p.dn (.lst (ds'.map V.ref))) [p.pg]) H4 := s4
    have h3d : (upd H2 p.dn (.lst (ds'.map V.ref))) p.dn = some (.lst (ds'.map V.ref)) := upd_same
    have e4' : r4.bl = p.r.bl ∨ H1 r4.bl = none := e4.imp (fun z => z) fun z => by
      have n1 : r4.bl ≠ p.dn := fun y => by rw [y, h3d] at z; cases z
      rw [upd_ne n1] at z
      exact s2.free z
    have imm : Same (Msk (upd H2 p.dn (.lst (ds'.map V.ref))) M) (Msk H4 (r4.bl :: M)) := imm_of s4 (by simp; exact hpg.pr.aM) (e4.imp (fun z => by rw [z]; exact hpg.pr.blM) (fun z => z))
    rw [msk_mut hpg.dM] at imm
    have imm2 := (msk_mono s2 (M := M)).trans imm
    have eu : H4 p.up = some (.lst (us.map V.ref)) := by
      have : H4 p.up = (upd H2 p.dn (.lst (ds'.map V.ref))) p.up := same_at s4 (by simp; exact ne_li hu1 hpg.pr.ins) (by rw [upd_ne a1, s2 _ _ hu1]; intro z; cases z)
      rw [this, upd_ne a1]
      exact s2 _ _ hu1
    have ed : H4 p.dn = some (.lst (ds'.map V.ref)) := (same_at s4 (by simp; exact ndp) (by rw [h3d]; intro z; cases z)).trans h3d
    obtain ⟨h1, h2⟩ := hc.one (p' := { p with r := r4 }) (x' := { x with P := psRecv x.P dn, dn := rest }) hi hp (fun b u e => by
      have n1 : b ≠ p.pg := fun z => by rw [z, msk_in (by simp)] at e; cases e
      have n2 : b ≠ p.dn := fun z => by rw [z, msk_in (by simp)] at e; cases e
      refine s4 b u ?_
      rw [msk_at (by simpa using n1), upd_ne n2]
      exact s2 _ _ (msk_same _ _ e)) rfl rfl rfl e4' rfl rfl
      ⟨hp4, List.mem_cons_of_mem _ hpg.uM, List.mem_cons_of_mem _ hpg.dM, ⟨us, eu, pr_imp (fun _ _ z => z.mono imm2) hu2⟩, ⟨ds', ed, pr_imp (fun _ _ z => z.mono imm2) hd2⟩⟩
    exact q _ _ _ _ h2 h1
end
end Tc
/-! # The walks: a message goes up -/
namespace Tc
open PySem PySem.Spec PyProof.Rows L2
section
variable {c : Cs} {H H' : Hp} {M M' : List Addr} {co : Addr} {C : CoS} {r : CoR} {p p' : PgR} {x x' : PgS} {i : Nat}
theorem CoAt.liveM (h : CoAt c H M co C r) : ∀ m ∈ M, H m ≠ none := h.sv.live
/-- the server goes on -/
theorem CoAt.srv {S' : SV} {r' : SRec} (h : CoAt c H M co C r) (s : Same (Msk H [r.s, r.sr.tl, r.sr.dl, r.sr.al]) H') (hsp : H r'.sp = none) (e1 : r'.tl = r.sr.tl) (e2 : r'.dl = r.sr.dl) (e3 : r'.al = r.sr.al) (e4 : r'.kd = r.sr.kd) (ea : r'.au.length = S'.deltas.length)
    (g : SvAt c H' (r'.sp :: M) r.s (nmk C) S' r') (gk : H' r.sr.kd = some (.dK (kvOf (nmk C)))) : CoAt c H' (r'.sp :: M) co { C with S := S' } { r with sr := r' } ∧ Same (Msk H M) (Msk H' (r'.sp :: M)) := by
  have imm : Same (Msk H M) (Msk H' (r'.sp :: M)) := imm_of s (by simp; exact ⟨h.sv.sM, h.sv.tM, h.sv.dM, h.sv.aM⟩) (.inr hsp)
  have sub : ∀ m ∈ M, m ∈ r'.sp :: M := fun m hm => List.mem_cons_of_mem _ hm
  have keep : ∀ b, b ≠ r.s → b ≠ r.sr.tl → b ≠ r.sr.dl → b ≠ r.sr.al → H b ≠ none → H' b = H b := fun b a1 a2 a3 a4 a5 => same_at s (by simp; exact ⟨a1, a2, a3, a4⟩) a5
  have hd : ∀ b kv, H b = some (.dK kv) → H' b = H b := fun b kv e => keep b (ne_id h.sv.ins e).symm (ne_ld h.sv.tls e).symm (ne_ld h.sv.dls e).symm (ne_ld h.sv.als e).symm (by rw [e]; intro z; cases z)
  have ap := apart_of h.ls
  refine ⟨⟨sub _ h.cM, sub _ h.pM, sub _ h.uM, sub _ h.dM, ?_, g, by show H' r'.kd = _; rw [e4]; exact gk, (hd _ _ h.dp).trans h.dp, (hd _ _ h.du).trans h.du, (hd _ _ h.dd).trans h.dd, ?_, ?_, h.nn, h.ok, ?_, ea⟩, imm⟩
  · refine (keep co ?_ (ne_li h.sv.tls h.ins).symm (ne_li h.sv.dls h.ins).symm (ne_li h.sv.als h.ins).symm (by rw [h.ins]; intro z; cases z)).trans h.ins
    intro z
    have h1 := h.ins
    rw [z, h.sv.ins] at h1
    injection h1 with h1
    injection h1 with _ _ h3
    have := congrArg List.length h3
    simp [seF, coF] at this
  · refine pr_mk (pr_len h.pg) fun j a b ha hb => ?_
    obtain ⟨a2, ha2, hab⟩ := h.at_ hb
    obtain rfl : a2 = a := Option.some.inj (ha2.symm.trans ha)
    have ma : a2 ∈ r.pr := List.mem_of_getElem? ha
    obtain ⟨t1, t2, t3⟩ := ap.sv a2 ma r.sr.tl (by simp)
    obtain ⟨d1, d2, d3⟩ := ap.sv a2 ma r.sr.dl (by simp)
    obtain ⟨l1, l2, l3⟩ := ap.sv a2 ma r.sr.al (by simp)
    obtain ⟨ua, hua⟩ := hab.uL
    obtain ⟨da, hda⟩ := hab.dL
    exact hab.frame (keep _ (ne_pc hab.pr.ins h.sv.ins (by simp [seF])) (ne_li h.sv.tls hab.pr.ins).symm (ne_li h.sv.dls hab.pr.ins).symm (ne_li h.sv.als hab.pr.ins).symm (by rw [hab.pr.ins]; intro z; cases z))
      (keep _ (ne_li hab.pr.lst h.sv.ins) t3.symm d3.symm l3.symm (by rw [hab.pr.lst]; intro z; cases z)) (keep _ (ne_li hua h.sv.ins) t1.symm d1.symm l1.symm (by rw [hua]; intro z; cases z))
      (keep _ (ne_li hda h.sv.ins) t2.symm d2.symm l2.symm (by rw [hda]; intro z; cases z)) imm sub g.live
  · have := h.ls
    unfold lsOf at this ⊢
    show ([r'.tl, r'.dl, r'.al] ++ _).Nodup
    rw [e1, e2, e3]
    exact this
  · have hn := h.dn
    show [r'.kd, r'.sp, r.dp, r.du, r.dd].Nodup
    rw [e4]
    have n1 : ∀ b kv, H b = some (.dK kv) → r'.sp ≠ b := fun b kv e z => by rw [← z, hsp] at e; cases e
    have k1 := n1 _ _ h.kd
    have k2 := n1 _ _ h.dp
    have k3 := n1 _ _ h.du
    have k4 := n1 _ _ h.dd
    simp only [List.nodup_cons, List.mem_cons, List.not_mem_nil, or_false, not_or] at hn ⊢
    exact ⟨⟨k1.symm, hn.1.2⟩, ⟨k2, k3, k4⟩, hn.2.2⟩
/-- a queue alone changes -/
theorem CoAt.queue {us ds : List Addr} {up : List (Nat × Dl × List Int)} {dn : List (Nat × List Int × Dn)} {H' : Hp} (h : CoAt c H M co C r) (hi : C.ps[i]? = some x) (hp : r.pr[i]? = some p) (s : Same (Msk H [p.up, p.dn]) H') (live : ∀ m ∈ M, H' m ≠ none)
    (hu : H' p.up = some (.lst (us.map V.ref))) (hu2 : Paired (UpAt c (Msk H M) x.nm x.k) us up) (hd : H' p.dn = some (.lst (ds.map V.ref))) (hd2 : Paired (fun m (y : Nat × List Int × Dn) => DnAt c (Msk H M) x.k y.1 y.2.1 m y.2.2) ds dn) :
    CoAt c H' (p.r.bl :: M) co { C with ps := C.ps.set i { x with up := up, dn := dn } } { r with pr := r.pr.set i p } ∧ Same (Msk H M) (Msk H' (p.r.bl :: M)) := by
  obtain ⟨p0, hp0, hpg⟩ := h.at_ hi
  obtain rfl : p0 = p := Option.some.inj (hp0.symm.trans hp)
  have ap := apart_of h.ls
  have mp : p0 ∈ r.pr := List.mem_of_getElem? hp
  obtain ⟨a1, a2, a3⟩ := ap.ud p0 p0 mp mp
  obtain ⟨ux, hux⟩ := hpg.uL
  obtain ⟨dx, hdx⟩ := hpg.dL
  have imm : Same (Msk H M) (Msk H' (p0.r.bl :: M)) := imm_of s (by simp; exact ⟨hpg.uM, hpg.dM⟩) (.inl hpg.pr.blM)
  have live2 : ∀ m ∈ p0.r.bl :: M, H' m ≠ none := fun m hm => (List.mem_cons.mp hm).elim (fun z => live m (by rw [z]; exact hpg.pr.blM)) (live m)
  have hP : PrAt c H' (p0.r.bl :: M) p0.pg x.nm x.k x.P p0.r := hpg.pr.frame (same_at s (by simp; exact ⟨(ne_li hux hpg.pr.ins).symm, (ne_li hdx hpg.pr.ins).symm⟩) (by rw [hpg.pr.ins]; intro z; cases z)) (same_at s (by simp; exact ⟨a2.symm, a3.symm⟩) (by rw [hpg.pr.lst]; intro z; cases z)) imm (fun m hm => List.mem_cons_of_mem _ hm) live2
  exact h.one (p' := p0) (x' := { x with up := up, dn := dn }) hi hp (same_less s (by simp)) rfl rfl rfl (.inl rfl) rfl rfl
    ⟨hP, List.mem_cons_of_mem _ hpg.uM, List.mem_cons_of_mem _ hpg.dM, ⟨us, hu, pr_imp (fun _ _ z => z.mono imm) hu2⟩, ⟨ds, hd, pr_imp (fun _ _ z => z.mono imm) hd2⟩⟩
end
theorem kOf_at {ks : List (Str × Kd)} (hn : (ks.map (·.1)).Nodup) {j : Nat} {q : Str × Kd} (h : ks[j]? = some q) : kOf ks q.1 = some (.str q.2.s) := by
  unfold kOf
  refine valV_nd (i := j) ?_ (by unfold kvOf; rw [List.getElem?_map, h]; rfl)
  unfold kvOf
  rw [List.map_map]
  have := nodup_inr hn
  rw [List.map_map] at this
  exact this
theorem take_map_set {α : Type} {f : α → α} {l : List α} {j : Nat} {y : α} (h : l[j]? = some y) : ((l.take j).map f ++ l.drop j).set j (f y) = (l.take (j + 1)).map f ++ l.drop (j + 1) := by
  obtain ⟨h1, h2⟩ := List.getElem?_eq_some_iff.mp h
  have hl : ((l.take j).map f).length = j := by rw [List.length_map, List.length_take]; omega
  rw [List.set_append_right _ _ (by omega), hl, Nat.sub_self, List.drop_eq_getElem_cons h1, take_snoc h, List.map_append, h2]
  simp
/-- what one program hears of a delta -/
def hear (nm : Str) (n : Nat) (t : List Int) (D : Dl) (y : PgS) : PgS := { y with dn := y.dn ++ [(n, t, if y.nm = nm then .ack else .chg D)] }
def CoS.subm (C : CoS) (i : Nat) (x : PgS) (v : Nat) (D : Dl) (rest : List (Nat × Dl × List Int)) : CoS :=
  ⟨svSub C.S v D i, (C.ps.set i { x with up := rest }).map (hear x.nm (C.S.deltas.length + 1) (svLast C.S) (svRe C.S v D))⟩
section
variable {P : Program} {w : World} {K : PySem.W.Frag} {mg : Str → Option Value} {base : Heap} {c : Cs}
/- Company.deliver_up: 0 self, 1 name, 2 sender, 3 version, 4 rows, 5 one, 6 message -/
theorem sc_Company_deliver_up : FnScope ["self", "name", "sender", "version", "rows", "one", "message"] ["self", "name"] (defScope s_Company_deliver_up) := ⟨rfl, rfl, rfl, by decide +kernel, rfl, by decide +kernel, by decide +kernel⟩
theorem bi_Company_deliver_up : BindsB "deliver_up" "Company.deliver_up" s_Company_deliver_up ["self", "name"] := fun _ _ _ _ _ _ us hl => match us, hl with | [_, _], _ => rfl
def spCoUp (c : Cs) : Sp := fun vs H Q _ => ∃ (co : Addr) (M : List Addr) (C : CoS) (r : CoR) (x : PgS) (i v : Nat) (D : Dl) (t : List Int) (rest : List (Nat × Dl × List Int)), vs = [.ref co, .str x.nm] ∧ CoAt c H M co C r ∧ C.ps[i]? = some x ∧ SvOk C.S ∧ C.S.deltas.length ≤ 19 ∧ C.ps.length ≤ 100 ∧ (∀ y ∈ C.ps, y.dn.length ≤ 1000) ∧ x.up = (v, D, t) :: rest ∧ v ≤ C.S.deltas.length ∧ C.S.texts[v]? = some t ∧ DOk D ∧
  CoTo c H M co (C.subm i x v D rest) (.int (C.S.deltas.length + 1 : Nat)) Q
theorem ok_Company_deliver_up (T : Txt K mg c) (G_Company_program : MF P w K mg base 2 c.co "program" ["self", "name"] [] (spCoProg c)) (G_Server_submit : MF P w K mg base 8 c.se "submit" ["self", "name", "version", "rows"] [] (spSvSub c)) (G_Company_version : PF P w K mg base 1 c.co "version" (spCoVersion c)) : MF P w K mg base 9 c.co "deliver_up" ["self", "name"] [] (spCoUp c) := by
  refine T.d_Company_deliver_up.mf sc_Company_deliver_up bi_Company_deliver_up (fun vs H Q E h => ?_) (fun f cdv A outer s H vs Q E hr h => ?_)
  · obtain ⟨co, M, C, r, x, i, v, D, t, rest, rfl, _⟩ := h
    rfl
  · obtain ⟨co, M, C, r, x, i, v, D, t, rest, rfl, hc, hi, hok, h19, hpl, hdl, hup, hv, ht, hDo, q⟩ := h
    refine ⟨_, (pss_cons (ps_expr (pe_mf G_Company_program T.cl_co hr (pv 0) (pa_cons (pv 1) pa_nil)))
      (pss_cons (ps_if (pt_cmpR (op_eqNil hr.units0) (pe_dget (hu1 hr) (pe_fld (pv 0) rfl) (pv 1) (fun _ _ => rfl)) (pe_lst pa_nil) (nomark _)) (pss_one ps_never) pss_nil)
      (pss_cons (ps_asg (pe_bm PySem.F.plainAttrs_list PySem.F.slot_list_pop PySem.F.type_list_pop mt_popAt (pe_dget (hu1 hr) (pe_fld (pv 0) rfl) (pv 1) (fun _ _ => rfl)) (pa_cons pe_int pa_nil)) (pg_tup rfl (pgs_cons (pg_name (i := 2) sc_Company_deliver_up.nd rfl (Or.inl rfl)) (pgs_cons (pg_name (i := 3) sc_Company_deliver_up.nd rfl (Or.inl rfl)) (pgs_cons (pg_name (i := 4) sc_Company_deliver_up.nd rfl (Or.inl rfl)) pgs_nil)))))
      (pss_cons (ps_for PassesOwn.never rfl (pi_listN K (pe_mf G_Server_submit T.cl_se hr (pe_fld (pv 0) rfl) (pa_cons (pv 2) (pa_cons (pv 3) (pa_cons (pv 4) pa_nil))))) (pg_tup rfl (pgs_cons (pg_name (i := 5) sc_Company_deliver_up.nd rfl (Or.inl rfl)) (pgs_cons (pg_name (i := 6) sc_Company_deliver_up.nd rfl (Or.inl rfl)) pgs_nil)))
      (pss_one (ps_expr (pe_bm PySem.F.plainAttrs_list PySem.F.slot_list_append PySem.F.type_list_append mt_append (pe_dget (hu1 hr) (pe_fld (pv 0) rfl) (pv 5) (fun _ _ => rfl)) (pa_cons (pv 6) pa_nil)))))
      (pss_one (ps_ret (pe_pf G_Company_version T.cl_co hr (pv 0)))))))), ?_⟩
    obtain ⟨p, hp, hpg⟩ := hc.at_ hi
    have ap := apart_of hc.ls
    have mp : p ∈ r.pr := List.mem_of_getElem? hp
    obtain ⟨a1, a2, a3⟩ := ap.ud p p mp mp
    obtain ⟨us, hu1, hu2⟩ := hpg.us
    obtain ⟨ds, hd1, hd2⟩ := hpg.ds
    rw [hup] at hu2
    cases hu2 with
    | @cons m y us' ys hm hu2 =>
    refine seq_join (fun σ H1 => σ = [some (.ref co), some (.str x.nm), none, none, none, none, none] ∧ H1 = H) (fun N hN => ⟨_, rfl, co, r.dx, _, rfl, hc.ins, rfl, _, rfl, co, M, C, r, x, p, i, rfl, hc, hi, hp, hN _ _ ⟨rfl, rfl⟩⟩) ?_
    rintro σ H1 ⟨rfl, rfl⟩
    refine seq_join (fun σ H2 => σ = [some (.ref co), some (.str x.nm), none, none, none, none, none] ∧ Same H1 H2) (fun N hN => ?_) ?_
    · refine ⟨_, rfl, co, c.co, r.dx, _, .ref r.du, rfl, hc.ins, T.cl_co, T.n_co_ups, rfl, _, rfl, r.du, _, rfl, hc.gu hi hp, lk 0 (by decide), fun e he => ⟨p.up, e, _, rfl, rfl, SqL.of ((same_upd he) _ _ hu1), SqL.of upd_same, _, rfl, iteF (hN _ _ ⟨rfl, same_upd he⟩)⟩⟩
    rintro σ H2 ⟨rfl, s2⟩
    have hc2 := hc.grow s2
    have hpg2 := hpg.grow s2
    obtain ⟨rr, rs, hm1, hrr, hgr, hrl, htl⟩ := hm
    -- the message is taken from the queue
    refine seq_join (fun σ H3 => σ = [some (.ref co), some (.str x.nm), some (.str x.nm), some (.int v), some (.ref rr), none, none] ∧ CoAt c H3 (p.r.bl :: M) co { C with ps := C.ps.set i { x with up := rest } } { r with pr := r.pr.set i p } ∧ Same (Msk H1 M) (Msk H3 (p.r.bl :: M))) (fun N hN => ?_) ?_
    · have hu12 := s2 _ _ hu1
      refine ⟨_, rfl, co, c.co, r.dx, _, .ref r.du, rfl, hc2.ins, T.cl_co, T.n_co_ups, rfl, _, rfl, r.du, _, rfl, hc2.gu hi hp, .inl ⟨rfl, _, SqL.of hu12⟩, p.up, _, 0, 0, .ref m, rfl, rfl, hu12, by decide, by decide, (ixN_seq (ixN_of (i := 0) (by simp))).1, rfl, ?_⟩
      have nmu : m ≠ p.up := fun z => by
        have := msk_same _ _ hm1
        rw [z, hu1] at this
        cases this
      refine ⟨m, _, rfl, SqT.of (show upd H2 p.up (.lst (us'.map V.ref)) m = _ by rw [upd_ne nmu]; exact s2 _ _ (msk_same _ _ hm1)), rfl, _, _, rfl, _, _, rfl, _, _, rfl, rfl, hN _ _ ⟨rfl, ?_⟩⟩
      obtain ⟨h1, h2⟩ := hc2.queue (us := us') (ds := ds) (up := rest) (dn := x.dn) (H' := upd H2 p.up (.lst (us'.map V.ref))) hi hp (fun b u e => by
        have n1 : b ≠ p.up := fun z => by rw [z, msk_in (by simp)] at e; cases e
        rw [upd_ne n1]
        exact msk_same _ _ e) (fun b hb => dom_upd b (hpg2.pr.live b hb)) upd_same (pr_imp (fun _ _ z => z.mono (msk_mono s2)) hu2) (by rw [upd_ne a1.symm]; exact s2 _ _ hd1) (pr_imp (fun _ _ z => z.mono (msk_mono s2)) hd2)
      exact ⟨h1, (msk_mono s2).trans h2⟩
    rintro σ H3 ⟨rfl, hc3, imm3⟩
    have hrr3 := hrr.mono imm3
    have hl3 : (nmk { C with ps := C.ps.set i { x with up := rest } }).length ≤ 100 := by
      unfold nmk
      rw [List.length_map]
      show (C.ps.set i _).length ≤ 100
      rw [List.length_set]
      exact hpl
    have hkn : ((nmk { C with ps := C.ps.set i { x with up := rest } }).map (·.1)).Nodup := by
      have := hc3.nn
      unfold nmk
      rw [List.map_map]
      exact this
    have hi3 : (C.ps.set i { x with up := rest })[i]? = some { x with up := rest } := List.getElem?_set_self (List.getElem?_eq_some_iff.mp hi).1
    have hki : (nmk { C with ps := C.ps.set i { x with up := rest } })[i]? = some (x.nm, x.k) := by
      unfold nmk
      rw [List.getElem?_map]
      show ((C.ps.set i { x with up := rest })[i]?).map _ = _
      rw [hi3]
      rfl
    have hps3 : ∀ y ∈ C.ps.set i { x with up := rest }, y.dn.length ≤ 1000 := fun y hy => by
      rcases List.mem_or_eq_of_mem_set hy with z | z
      · exact hdl y z
      · rw [z]; exact hdl x (List.mem_of_getElem? hi)
    have hlive3 := hc3.liveM
    generalize hpsE : C.ps.set i { x with up := rest } = ps3 at *
    generalize r.pr.set i p = pr3 at *
    generalize p.r.bl :: M = M3 at *
    have hn3 : (nmk ⟨C.S, ps3⟩).length = ps3.length := by unfold nmk; rw [List.length_map]
    refine seq_join (fun σ H5 => ∃ v5 v6 M5 r5, σ = [some (.ref co), some (.str x.nm), some (.str x.nm), some (.int v), some (.ref rr), v5, v6] ∧ CoAt c H5 M5 co ⟨svSub C.S v D i, ps3.map (hear x.nm (C.S.deltas.length + 1) (svLast C.S) (svRe C.S v D))⟩ r5 ∧ Same (Msk H1 M) (Msk H5 M5)) (fun N hN => ?_) ?_
    · refine ⟨_, rfl, co, c.co, r.dx, _, .ref r.s, rfl, hc3.ins, T.cl_co, T.n_co_own_server, rfl, r.s, r.sr.dx, _, rfl, hc3.sv.ins, rfl, _, rfl, _, rfl, _, rfl, r.s, rr, M3, nmk ⟨C.S, ps3⟩, C.S, r.sr, x.nm, x.k, v, i, D, t, rs, rfl, hc3.sv, hok, hc3.kd, hc3.ok { x with up := rest } (List.mem_of_getElem? hi3), kOf_at hkn hki, hl3, ?_, h19, hc3.au, hv, ht, hrr3, hgr, hrl, htl, hDo, fun H4 r' L qs s4 n4 e1 e2 e3 e4 e5 g4 k4 nL nLs hL hqs => ?_⟩
      · intro q2 hq2
        obtain ⟨j, hj⟩ := List.getElem?_of_mem hq2
        exact kOf_at hkn hj
      obtain ⟨hc4, imm4⟩ := hc3.srv s4 n4 e1 e2 e3 e4 (by
        rw [e5]
        show _ = (C.S.deltas ++ [_]).length
        rw [List.length_append]
        show r.sr.au.length + 1 = _
        rw [hc3.au]
        rfl) g4 k4
      have nLM : L ∉ r'.sp :: M3 := fun z => (List.mem_cons.mp z).elim nLs fun y => hlive3 L y nL
      have hL4 : Msk H4 (r'.sp :: M3) L = some (.lst (qs.map V.ref)) := by rw [msk_at nLM]; exact hL
      have hqs4 := pr_imp (fun _ _ z => OutAt.mono (msk_less (M' := r'.sp :: M3) fun b hb => List.mem_cons_of_mem _ hb) z) hqs
      have hql : qs.length = ps3.length := (pr_len hqs).trans hn3
      generalize r'.sp :: M3 = M4 at *
      refine ⟨L, rfl, ⟨_, SqL.of hL⟩, for_list (K := K) (a := L) (xs := qs.map V.ref) (fun j σ H5 => ∃ v5 v6 M5 r5, σ = [some (.ref co), some (.str x.nm), some (.str x.nm), some (.int v), some (.ref rr), v5, v6] ∧ CoAt c H5 M5 co ⟨svSub C.S v D i, (ps3.take j).map (hear x.nm (C.S.deltas.length + 1) (svLast C.S) (svRe C.S v D)) ++ ps3.drop j⟩ r5 ∧ Same (Msk H4 M4) (Msk H5 M5)) ⟨none, none, M4, _, rfl, hc4, same_refl⟩ ?_ ?_ ?_⟩
      · rintro j σ H5 - ⟨v5, v6, M5, r5, rfl, hc5, g5⟩
        exact SqL.of (msk_same _ _ (g5 _ _ hL4))
      · rintro j xv σ H5 hx ⟨v5, v6, M5, r5, rfl, hc5, g5⟩
        obtain ⟨q0, hq0, rfl⟩ := lmap_at hx
        obtain ⟨pk, hpk, ho⟩ := pr_at2 hqs4 hq0
        obtain ⟨mj, ho1, ho2⟩ := ho.mono g5
        have hyj : ∃ y, ps3[j]? = some y ∧ pk = (y.nm, y.k) := by
          unfold nmk at hpk
          rw [List.getElem?_map] at hpk
          obtain ⟨y, h1, h2⟩ := Option.map_eq_some_iff.mp hpk
          exact ⟨y, h1, h2.symm⟩
        obtain ⟨y, hy, rfl⟩ := hyj
        have hjl := (List.getElem?_eq_some_iff.mp hy).1
        have hyc : ((ps3.take j).map (hear x.nm (C.S.deltas.length + 1) (svLast C.S) (svRe C.S v D)) ++ ps3.drop j)[j]? = some y := by
          rw [List.getElem?_append_right (by rw [List.length_map, List.length_take]; omega), List.length_map, List.length_take, Nat.min_eq_left (by omega), Nat.sub_self, List.getElem?_drop]
          exact hy
        obtain ⟨pj, hpj, hpgj⟩ := hc5.at_ (i := j) hyc
        obtain ⟨usj, huj1, huj2⟩ := hpgj.us
        obtain ⟨dsj, hdj1, hdj2⟩ := hpgj.ds
        have apj := apart_of hc5.ls
        have mpj : pj ∈ r5.pr := List.mem_of_getElem? hpj
        obtain ⟨b1, b2, b3⟩ := apj.ud pj pj mpj mpj
        have hdlj := hps3 y (List.mem_of_getElem? hy)
        refine ⟨q0, _, rfl, SqT.of (msk_same _ _ ho1), rfl, _, _, rfl, _, _, rfl, rfl, ?_⟩
        refine ⟨_, rfl, co, c.co, r5.dx, _, .ref r5.dd, rfl, hc5.ins, T.cl_co, T.n_co_downs, rfl, _, rfl, r5.dd, _, rfl, hc5.gd (i := j) hyc hpj, .inl ⟨rfl, _, SqL.of hdj1⟩, _, rfl, pj.dn, dsj.map V.ref, _, rfl, rfl, hdj1, szlt _ (by rw [List.length_map, pr_len hdj2]; omega), ?_⟩
        obtain ⟨h1, h2⟩ := hc5.queue (i := j) (us := usj) (ds := dsj ++ [mj]) (up := y.up) (dn := y.dn ++ [(C.S.deltas.length + 1, svLast C.S, if y.nm = x.nm then .ack else .chg (svRe C.S v D))]) (H' := upd H5 pj.dn (.lst (dsj.map V.ref ++ [.ref mj]))) hyc hpj (fun b u e => by
          have n1 : b ≠ pj.dn := fun z => by rw [z, msk_in (by simp)] at e; cases e
          rw [upd_ne n1]
          exact msk_same _ _ e) (fun b hb => dom_upd b (hc5.liveM b hb)) (by rw [upd_ne b1]; exact huj1) huj2 (by rw [upd_same, List.map_append]; rfl) (pr_app hdj2 (.cons ho2 .nil))
        refine ⟨_, _, _, { r5 with pr := r5.pr.set j pj }, rfl, ?_, g5.trans h2⟩
        have e := take_map_set (f := hear x.nm (C.S.deltas.length + 1) (svLast C.S) (svRe C.S v D)) hy
        rw [← e]
        exact h1
      · rintro σ H5 ⟨v5, v6, M5, r5, rfl, hc5, g5⟩
        rw [List.length_map, hql, List.take_length, List.drop_length, List.append_nil] at hc5
        exact hN _ _ ⟨v5, v6, M5, r5, rfl, hc5, imm3.trans (imm4.trans g5)⟩
    rintro σ H5 ⟨v5, v6, M5, r5, rfl, hc5, g5⟩
    refine ⟨_, rfl, co, r5.dx, _, rfl, hc5.ins, co, M5, _, r5, rfl, hc5, ?_⟩
    have el : ((svSub C.S v D i).deltas.length) = C.S.deltas.length + 1 := by
      show (C.S.deltas ++ [_]).length = _
      rw [List.length_append]
      rfl
    show Q (.int ((svSub C.S v D i).deltas.length : Nat)) H5
    rw [el]
    refine q H5 M5 r5 g5 ?_
    unfold CoS.subm
    rw [hpsE]
    exact hc5
end
end Tc
/-! # The walks: quiet -/
namespace Tc
open PySem PySem.Spec PyProof.Rows L2
def quiet1 (y : PgS) : Bool := y.up.isEmpty && (y.dn.isEmpty && (y.P.sent.isNone && y.P.wait.isNone))
def quietB (C : CoS) : Bool := C.ps.all quiet1
theorem isE {α β : Type} {l : List α} {m : List β} (h : l.length = m.length) : l.isEmpty = m.isEmpty := by
  cases l with
  | nil => cases m with
    | nil => rfl
    | cons _ _ => cases h
  | cons _ _ => cases m with
    | nil => cases h
    | cons _ _ => rfl
theorem all_take_snoc {α : Type} {f : α → Bool} {l : List α} {j : Nat} {y : α} (h : l[j]? = some y) : (l.take (j + 1)).all f = ((l.take j).all f && f y) := by
  rw [take_snoc h, List.all_append]
  simp
theorem optD_non {c : Cs} {H : Hp} {v : V} {o : Option Dl} (h : OptD c H v o) : (!decide (v = V.non)) = !o.isNone := by
  cases o with
  | none =>
    have h : v = .non := h
    rw [h]
    rfl
  | some D =>
    obtain ⟨p, h1, _⟩ := h
    rw [h1]
    rfl
section
variable {P : Program} {w : World} {K : PySem.W.Frag} {mg : Str → Option Value} {base : Heap} {c : Cs}
/- Company.is_quiet: 0 self, 1 name, 2 program -/
theorem sc_Company_is_quiet : FnScope ["self", "name", "program"] ["self"] (defScope s_Company_is_quiet) := ⟨rfl, rfl, rfl, by decide +kernel, rfl, by decide +kernel, by decide +kernel⟩
theorem bi_Company_is_quiet : BindsB "is_quiet" "Company.is_quiet" s_Company_is_quiet ["self"] := fun _ _ _ _ _ _ us hl => match us, hl with | [_], _ => rfl
def spCoQuiet (c : Cs) : Sp := fun vs H Q _ => ∃ co M C r, vs = [.ref co] ∧ CoAt c H M co C r ∧ ∀ H', Same H H' → Q (.bl (quietB C)) H'
theorem ok_Company_is_quiet (T : Txt K mg c) : PF P w K mg base 1 c.co "is_quiet" (spCoQuiet c) := by
  refine T.d_Company_is_quiet.pf sc_Company_is_quiet bi_Company_is_quiet (fun vs H Q E h => ?_) (fun f cdv A outer s H vs Q E hr h => ?_)
  · obtain ⟨co, M, C, r, rfl, _⟩ := h
    rfl
  · obtain ⟨co, M, C, r, rfl, hc, q⟩ := h
    refine ⟨_, (pss_cons (ps_lock (ps_for PassesOwn.never rfl (pi_items (pe_fld (pv 0) rfl)) (pg_tup rfl (pgs_cons (pg_name (i := 1) sc_Company_is_quiet.nd rfl (Or.inl rfl)) (pgs_cons (pg_name (i := 2) sc_Company_is_quiet.nd rfl (Or.inl rfl)) pgs_nil)))
      (pss_cons (ps_if (PW.pt (pw_or (pt_cmpR (op_neNil hr.units0) (pe_dget (hu1 hr) (pe_fld (pv 0) rfl) (pv 1) (fun _ _ => rfl)) (pe_lst pa_nil) (nomark _)) (pw_or1 (pt_cmpR (op_neNil hr.units0) (pe_dget (hu1 hr) (pe_fld (pv 0) rfl) (pv 1) (fun _ _ => rfl)) (pe_lst pa_nil) (nomark _))))) (pss_one (ps_ret pe_bl)) pss_nil)
      (pss_one (ps_if (PW.pt (pw_or (pt_cmpR op_notN (pe_fld (pv 2) rfl) pe_non (nomark _)) (pw_or1 (pt_cmpR op_notN (pe_fld (pv 2) rfl) pe_non (nomark _))))) (pss_one (ps_ret pe_bl)) pss_nil)))))
      (pss_one (ps_ret pe_bl))), ?_⟩
    have hn := hc.dn
    simp only [List.nodup_cons, List.mem_cons, List.not_mem_nil, or_false, not_or] at hn
    have ndu : r.du ≠ r.dp := fun z => hn.2.2.1.1 z.symm
    have ndd : r.dd ≠ r.dp := fun z => hn.2.2.1.2 z.symm
    have back : ∀ od H5, Same (upd H r.dp (.frz od (.dK (nmv C (r.pr.map (·.pg)))))) H5 → Same H (upd H5 r.dp (.dK (nmv C (r.pr.map (·.pg))))) := fun od H5 s5 b u e => by
      by_cases nb : b = r.dp
      · rw [nb, upd_same]
        rw [nb, hc.dp] at e
        exact e
      · rw [upd_ne nb]
        refine s5 b u ?_
        rw [upd_ne nb]
        exact e
    refine seq_join (fun σ H1 => ∃ v1 v2, σ = [some (.ref co), v1, v2] ∧ Same H H1 ∧ quietB C = true) (fun N hN => ?_) ?_
    · refine ⟨r.dp, .dK (nmv C (r.pr.map (·.pg))), hc.dp, trivial, fun od => ?_⟩
      have inF : ∀ b u, b ≠ r.dp → H b = some u → (upd H r.dp (.frz od (.dK (nmv C (r.pr.map (·.pg)))))) b = some u := fun b u nb e => by rw [upd_ne nb]; exact e
      have hcoF := inF co _ (ne_id hc.ins hc.dp) hc.ins
      have hkl : (nmv C (r.pr.map (·.pg))).length = C.ps.length := by
        have := congrArg List.length (nmv_keys (C := C) (as := r.pr.map (·.pg)) (by rw [List.length_map]; exact pr_len hc.pg))
        simpa using this
      refine ⟨_, rfl, co, c.co, r.dx, _, .ref r.dp, rfl, hcoF, T.cl_co, T.n_co_programs, rfl, r.dp, od, _, rfl, upd_same, for_it walk_items (fun j σ H5 => ∃ v1 v2, σ = [some (.ref co), v1, v2] ∧ Same (upd H r.dp (.frz od (.dK (nmv C (r.pr.map (·.pg)))))) H5 ∧ (C.ps.take j).all quiet1 = true) ⟨none, none, rfl, same_refl, rfl⟩ ?_ ?_ ?_⟩
      · rintro j σ H5 - ⟨v1, v2, rfl, s5, _⟩
        exact s5 _ _ upd_same
      · rintro j xv σ H5 H6 hj ⟨v1, v2, rfl, s5, hq⟩ ⟨T0, y1, y2, rfl, hT, rfl, ek, ev⟩
        rw [hkl] at hj
        have hy : C.ps[j]? = some (C.ps[j]'hj) := List.getElem?_eq_getElem hj
        generalize C.ps[j]'hj = y at hy
        obtain ⟨p, hp, hpg⟩ := hc.at_ hy
        have hat := nmv_at (C := C) (as := r.pr.map (·.pg)) hy (a := p.pg) (by rw [List.getElem?_map, hp]; rfl)
        have ek : ((nmv C (r.pr.map (·.pg)))[j]?).map (fun kv => kV kv.1) = some y1 := ek
        have ev : ((nmv C (r.pr.map (·.pg)))[j]?).map Prod.snd = some y2 := ev
        rw [hat] at ek ev
        obtain rfl : kV (.inr y.nm) = y1 := Option.some.inj ek
        obtain rfl : V.ref p.pg = y2 := Option.some.inj ev
        obtain ⟨us, hu1, hu2⟩ := hpg.us
        obtain ⟨ds, hd1, hd2⟩ := hpg.ds
        have s6 := s5.trans (same_upd (o := .tup [kV (.inr y.nm), V.ref p.pg]) hT)
        have hT6 : upd H5 T0 (.tup [kV (.inr y.nm), V.ref p.pg]) T0 = some (.tup [kV (.inr y.nm), V.ref p.pg]) := upd_same
        generalize upd H5 T0 (.tup [kV (.inr y.nm), V.ref p.pg]) = H6 at *
        have at6 : ∀ H7, Same H6 H7 → ∀ b u, b ≠ r.dp → H b = some u → H7 b = some u := fun H7 s7 b u nb e => s7 _ _ (s6 _ _ (inF b u nb e))
        have gu : ∀ H7, Same H6 H7 → DGet H7 r.du (.str y.nm) (some (.ref p.up)) := fun H7 s7 => .inl ⟨_, .inr y.nm, .inl (at6 H7 s7 _ _ ndu hc.du), rfl, (nmv_get hc.nn (by rw [List.length_map]; exact pr_len hc.pg) hy (by rw [List.getElem?_map, hp]; rfl)).symm⟩
        have gd : ∀ H7, Same H6 H7 → DGet H7 r.dd (.str y.nm) (some (.ref p.dn)) := fun H7 s7 => .inl ⟨_, .inr y.nm, .inl (at6 H7 s7 _ _ ndd hc.dd), rfl, (nmv_get hc.nn (by rw [List.length_map]; exact pr_len hc.pg) hy (by rw [List.getElem?_map, hp]; rfl)).symm⟩
        have cC : ∀ H7, Same H6 H7 → H7 co = some (.ins c.co r.dx (coF r)) := fun H7 s7 => at6 H7 s7 _ _ (ne_id hc.ins hc.dp) hc.ins
        have uC : ∀ H7, Same H6 H7 → H7 p.up = some (.lst (us.map V.ref)) := fun H7 s7 => at6 H7 s7 _ _ (ne_ld hu1 hc.dp) hu1
        have dC : ∀ H7, Same H6 H7 → H7 p.dn = some (.lst (ds.map V.ref)) := fun H7 s7 => at6 H7 s7 _ _ (ne_ld hd1 hc.dp) hd1
        have pC : ∀ H7, Same H6 H7 → H7 p.pg = some (.ins c.pr p.r.dx (prF y.nm y.k y.P.ver p.r)) := fun H7 s7 => at6 H7 s7 _ _ (ne_id hpg.pr.ins hc.dp) hpg.pr.ins
        have eU : (us.map V.ref).isEmpty = y.up.isEmpty := isE (by rw [List.length_map]; exact pr_len hu2)
        have eD : (ds.map V.ref).isEmpty = y.dn.isEmpty := isE (by rw [List.length_map]; exact pr_len hd2)
        -- how it ends when something is left
        have no : quiet1 y = false → quietB C = false := fun z => by
          unfold quietB
          rw [List.all_eq_false]
          exact ⟨y, List.mem_of_getElem? hy, by rw [z]; exact Bool.false_ne_true⟩
        have out : ∀ H7, Same H6 H7 → quiet1 y = false → H7 r.dp = some (.frz od (.dK (nmv C (r.pr.map (·.pg))))) ∧ Q (.bl false) (upd H7 r.dp (.dK (nmv C (r.pr.map (·.pg))))) := fun H7 s7 z => by
          refine ⟨s7 _ _ (s6 _ _ upd_same), ?_⟩
          have := q _ (back od H7 (s6.trans s7))
          rw [no z] at this
          exact this
        refine ⟨T0, _, rfl, SqT.of hT6, rfl, _, _, rfl, _, _, rfl, rfl, ?_⟩
        refine seq_join (fun σ H7 => σ = [some (.ref co), some (.str y.nm), some (.ref p.pg)] ∧ Same H6 H7 ∧ y.up.isEmpty = true ∧ y.dn.isEmpty = true) (fun N2 hN2 => ?_) ?_
        · refine ⟨_, rfl, co, c.co, r.dx, _, .ref r.du, rfl, cC H6 same_refl, T.cl_co, T.n_co_ups, rfl, _, rfl, r.du, _, rfl, gu H6 same_refl, lk 0 (by decide), fun e he => ⟨p.up, e, _, rfl, rfl, SqL.of (uC _ (same_upd he)), SqL.of upd_same, _, rfl, ?_⟩⟩
          rw [eU]
          have se := same_upd (H := H6) (o := .lst []) he
          cases hue : y.up.isEmpty with
          | false =>
            refine iteT (iteT (out _ se ?_))
            unfold quiet1
            rw [hue]
            rfl
          | true =>
            refine iteF ⟨_, rfl, co, c.co, r.dx, _, .ref r.dd, rfl, cC _ se, T.cl_co, T.n_co_downs, rfl, _, rfl, r.dd, _, rfl, gd _ se, lk 0 (by decide), fun e2 he2 => ⟨p.dn, e2, _, rfl, rfl, SqL.of (dC _ (se.trans (same_upd he2))), SqL.of upd_same, _, rfl, ?_⟩⟩
            rw [eD]
            cases hde : y.dn.isEmpty with
            | false =>
              refine iteT (out _ (se.trans (same_upd he2)) ?_)
              unfold quiet1
              rw [hue, hde]
              rfl
            | true => exact iteF (hN2 _ _ ⟨rfl, se.trans (same_upd he2), hue, hde⟩)
        rintro σ H7 ⟨rfl, s7, hue, hde⟩
        refine ⟨_, rfl, p.pg, c.pr, p.r.dx, _, p.r.sv, rfl, pC H7 s7, T.cl_pr, T.n_pr_sent, rfl, rfl, _, rfl, ?_⟩
        rw [optD_non hpg.pr.sent]
        cases hs : y.P.sent.isNone with
        | false =>
          refine iteT (iteT (out _ s7 ?_))
          unfold quiet1
          rw [hue, hde, hs]
          rfl
        | true =>
          refine iteF ⟨_, rfl, p.pg, c.pr, p.r.dx, _, p.r.wv, rfl, pC H7 s7, T.cl_pr, T.n_pr_waiting, rfl, rfl, _, rfl, ?_⟩
          rw [optD_non hpg.pr.wait]
          cases hw : y.P.wait.isNone with
          | false =>
            refine iteT (out _ s7 ?_)
            unfold quiet1
            rw [hue, hde, hs, hw]
            rfl
          | true =>
            refine iteF ⟨_, _, rfl, s6.trans s7, ?_⟩
            rw [all_take_snoc hy, hq]
            unfold quiet1
            rw [hue, hde, hs, hw]
            rfl
      · rintro σ H5 ⟨v1, v2, rfl, s5, hq⟩
        rw [hkl, List.take_length] at hq
        exact ⟨s5 _ _ upd_same, hN _ _ ⟨v1, v2, rfl, back od H5 s5, hq⟩⟩
    rintro σ H1 ⟨v1, v2, rfl, s1, hq⟩
    have := q H1 s1
    rw [hq] at this
    exact this
end
end Tc
/-! # The walks: a company is made, programs join -/
namespace Tc
open PySem PySem.Spec PyProof.Rows L2
section
variable {c : Cs} {H H' : Hp} {M M' : List Addr} {co : Addr} {C : CoS} {r : CoR}
theorem putK_nm {C : CoS} {as : List Addr} {nm : Str} {a : Addr} {x : PgS} (hx : x.nm = nm) (hl : as.length = C.ps.length) (hn : nm ∉ C.ps.map (·.nm)) : putK (nmv C as) (.inr nm) (.ref a) = nmv { C with ps := C.ps ++ [x] } (as ++ [a]) := by
  have hk := nmv_keys (C := C) hl
  unfold putK
  rw [if_neg]
  · unfold nmv
    show _ = (((C.ps ++ [x]).map (·.nm)).zip (as ++ [a])).map _
    rw [List.map_append, List.zip_append (by rw [List.length_map]; exact hl.symm), List.map_append]
    show _ = _ ++ [((.inr x.nm : Key), V.ref a)]
    rw [hx]
  · intro z
    obtain ⟨kv, hkv, e⟩ := List.any_eq_true.mp z
    have e := of_decide_eq_true e
    have : kv.1 ∈ (nmv C as).map (·.1) := List.mem_map.mpr ⟨kv, hkv, rfl⟩
    rw [hk, e] at this
    obtain ⟨n, h1, h2⟩ := List.mem_map.mp this
    exact hn (by rw [← Sum.inr.inj h2]; exact h1)
/-- a new cell joins those that change -/
theorem SvAt.newc {s y : Addr} {ks : List (Str × Kd)} {S : SV} {r : SRec} {o : HO} (h : SvAt c H M s ks S r) (hy : H y = none) : SvAt c (upd H y o) (y :: M) s ks S r := by
  refine h.frame (fun b hb => ?_) (imm_of (L := []) (fun b u e => ?_) (by simp) (.inr hy)) (fun m hm => List.mem_cons_of_mem _ hm) (fun m hm => ?_)
  · have : H b ≠ none := by
      refine h.live b ?_
      simp only [List.mem_cons, List.not_mem_nil, or_false] at hb
      rcases hb with z | z | z | z | z | z <;> subst z
      · exact h.sM
      · exact h.tM
      · exact h.dM
      · exact h.aM
      · exact h.kM
      · exact h.pM
    exact upd_ne fun z => this (by rw [z]; exact hy)
  · exact (same_upd hy) _ _ (msk_same _ _ e)
  · rcases List.mem_cons.mp hm with z | z
    · rw [z, upd_same]; intro w; cases w
    · exact dom_upd m (h.live m z)
/-- the company's own record is written -/
theorem SvAt.rec_ {s : Addr} {ks : List (Str × Kd)} {S : SV} {r : SRec} {dx : Addr} {fs : List (Str × V)} {o : HO} (h : SvAt c H M s ks S r) (hco : H co = some (.ins c.co dx fs)) (hs : s ≠ co) (hM : co ∈ M) : SvAt c (upd H co o) M s ks S r := by
  refine h.frame (fun b hb => ?_) (by rw [msk_mut hM]; exact same_refl) (fun m hm => hm) (fun m hm => dom_upd m (h.live m hm))
  refine upd_ne ?_
  simp only [List.mem_cons, List.not_mem_nil, or_false] at hb
  rcases hb with z | z | z | z | z | z <;> subst z
  · exact hs
  · exact ne_li h.tls hco
  · exact ne_li h.dls hco
  · exact ne_li h.als hco
  · exact rd_ins (by intro _ _ _ z; cases z) h.kds hco
  · exact (ne_id hco h.sps).symm
end
section
variable {P : Program} {w : World} {K : PySem.W.Frag} {mg : Str → Option Value} {base : Heap} {c : Cs}
/- Company.__init__: 0 self, 1 text -/
theorem sc_Company_init : FnScope ["self", "text"] ["self", "text"] (defScope s_Company_init) := ⟨rfl, rfl, rfl, by decide +kernel, rfl, by decide +kernel, by decide +kernel⟩
theorem bi_Company_init : BindsB "__init__" "Company.__init__" s_Company_init ["self", "text"] := fun _ _ _ _ _ _ us hl => match us, hl with | [_, _], _ => rfl
def spCoInit (c : Cs) : Sp := fun vs H Q _ => ∃ (co dx x : Addr) (t : List Int), vs = [.ref co, .ref x] ∧ H co = some (.ins c.co dx []) ∧ TextAt c (Msk H [co]) x t ∧
  ∀ H' M' r', Same (Msk H [co]) (Msk H' M') → CoAt c H' M' co ⟨⟨[t], [], []⟩, []⟩ r' → Q .non H'
theorem ok_Company_init (T : Txt K mg c) (G_Server_init : KF P w K mg base 2 "Server" c.se ["self", "text"] (spSvInit c)) : KF P w K mg base 4 "Company" c.co ["self", "text"] (spCoInit c) := by
  refine T.d_Company_init.kf sc_Company_init bi_Company_init (fun vs H Q E h => ?_) (fun f cdv A outer s H vs Q E hr h => ?_)
  · obtain ⟨co, dx, x, t, rfl, _⟩ := h
    rfl
  · obtain ⟨co, dx, x, t, rfl, hco, hx, q⟩ := h
    refine ⟨_, (pss_cons (ps_fld (pv 0) (pe_kf G_Server_init hr (pa_cons (pv 1) pa_nil)) rfl)
      (pss_cons (ps_fld (pv 0) pe_dnewK rfl)
      (pss_cons (ps_fld (pv 0) pe_dnewK rfl)
      (pss_one (ps_fld (pv 0) pe_dnewK rfl))))), ?_⟩
    have hM : ∀ (M1 : List Addr) (H1 : Hp) (y : Addr) (o : HO), H1 y = none → Same (Msk H [co]) (Msk H1 M1) → Same (Msk H [co]) (Msk (upd H1 y o) (y :: M1)) := fun M1 H1 y o hy g => g.trans (imm_of (L := []) (fun b u e => (same_upd hy) _ _ (msk_same _ _ e)) (by simp) (.inr hy))
    refine seq_join (fun σ H1 => ∃ s M1 sr, σ = [some (.ref co), some (.ref x)] ∧ co ∈ M1 ∧ s ≠ co ∧ H1 co = some (.ins c.co dx [("own_server", .ref s)]) ∧ SvAt c H1 M1 s [] ⟨[t], [], []⟩ sr ∧ H1 sr.kd = some (.dK []) ∧ sr.au.length = 0 ∧ Same (Msk H [co]) (Msk H1 M1)) (fun N hN => ?_) ?_
    · refine ⟨_, rfl, fun s ds ns nds nes => ?_⟩
      have s1 : Same H (upd (upd H ds (.own s)) s (.ins c.se ds [])) := fun b u e => by
        rw [upd_ne (ne_of_none e ns), upd_ne (ne_of_none e nds)]
        exact e
      have nsc : s ≠ co := (ne_of_none hco ns).symm
      refine ⟨s, ds, x, [co], t, rfl, upd_same, hx.mono fun b u e => ?_, (by intro m hm; rw [List.mem_singleton.mp hm, s1 _ _ hco]; intro z; cases z), fun H1 sr s2 hfr g gk => ⟨rfl, ?_⟩⟩
      · have nb : b ∉ [co] := fun z => by rw [msk_in z] at e; cases e
        rw [msk_at nb] at e
        rw [msk_at (by simp at nb ⊢; exact ⟨ne_of_none e ns, nb⟩)]
        exact s1 _ _ e
      have hco1 : H1 co = some (.ins c.co dx []) := by
        refine s2 _ _ ?_
        rw [msk_at (by simpa using nsc.symm)]
        exact s1 _ _ hco
      refine ⟨_, rfl, co, c.co, dx, [], rfl, hco1, T.cl_co, T.n_co_own_server, by show 0 < 1000; decide, hN _ _ ⟨s, _, sr, rfl, by simp, nsc, upd_same, g.rec_ hco1 nsc (by simp), ?_, ?_, ?_⟩⟩
      · rw [upd_ne (ne_id hco1 gk).symm]
        exact gk
      · have := g.aul
        exact Nat.le_zero.mp this
      · rw [msk_mut (by simp)]
        intro b u e
        have nb : b ∉ [co] := fun z => by rw [msk_in z] at e; cases e
        rw [msk_at nb] at e
        have ns1 : b ≠ s := ne_of_none e ns
        have hb1 : H1 b = some u := by
          refine s2 _ _ ?_
          rw [msk_at (by simpa using ns1)]
          exact s1 _ _ e
        have hf : ∀ y ∈ [sr.tl, sr.dl, sr.al, sr.kd, sr.sp], b ≠ y := fun y hy z => by
          have h2 := hfr y hy
          rw [← z, s1 _ _ e] at h2
          cases h2
        rw [msk_at]
        · exact hb1
        · simp only [List.mem_cons, List.not_mem_nil, or_false, not_or]
          simp at nb
          exact ⟨hf _ (by simp), hf _ (by simp), hf _ (by simp), hf _ (by simp), hf _ (by simp), ns1, nb⟩
    rintro σ H1 ⟨sv, M1, sr, rfl, hcM, nsc, hco1, g1, gk1, gau, im1⟩
    have step : ∀ (H2 : Hp) (M2 : List Addr) (fs : List (Str × V)) (f : Str) (y : Addr), H2 y = none → co ∈ M2 → H2 co = some (.ins c.co dx fs) → SvAt c H2 M2 sv [] ⟨[t], [], []⟩ sr → Same (Msk H [co]) (Msk H2 M2) →
        (upd (upd H2 y (.dK [])) co (.ins c.co dx (putF f (.ref y) fs))) co = some (.ins c.co dx (putF f (.ref y) fs)) ∧ SvAt c (upd (upd H2 y (.dK [])) co (.ins c.co dx (putF f (.ref y) fs))) (y :: M2) sv [] ⟨[t], [], []⟩ sr ∧ Same (Msk H [co]) (Msk (upd (upd H2 y (.dK [])) co (.ins c.co dx (putF f (.ref y) fs))) (y :: M2)) ∧
        (upd (upd H2 y (.dK [])) co (.ins c.co dx (putF f (.ref y) fs))) y = some (.dK []) ∧ ∀ b u, H2 b = some u → b ≠ co → (upd (upd H2 y (.dK [])) co (.ins c.co dx (putF f (.ref y) fs))) b = some u := fun H2 M2 fs f y hy hc2 h2 g2 i2 => by
      have h3 := (same_upd (o := .dK []) hy) _ _ h2
      have nyc : y ≠ co := (ne_of_none h2 hy).symm
      refine ⟨upd_same, (g2.newc (o := .dK []) hy).rec_ h3 nsc (List.mem_cons_of_mem _ hc2), ?_, by rw [upd_ne nyc, upd_same], fun b u e nb => by rw [upd_ne nb]; exact (same_upd hy) _ _ e⟩
      rw [msk_mut (List.mem_cons_of_mem _ hc2)]
      exact hM _ _ _ _ hy i2
    refine seq_join (fun σ H2 => ∃ dp, σ = [some (.ref co), some (.ref x)] ∧ H1 dp = none ∧ H2 co = some (.ins c.co dx [("own_server", .ref sv), ("programs", .ref dp)]) ∧ SvAt c H2 (dp :: M1) sv [] ⟨[t], [], []⟩ sr ∧ Same (Msk H [co]) (Msk H2 (dp :: M1)) ∧ H2 dp = some (.dK []) ∧ H2 sr.kd = some (.dK [])) (fun N hN => ?_) ?_
    · refine fun dp hdp => ⟨_, rfl, co, c.co, dx, _, rfl, (same_upd hdp) _ _ hco1, T.cl_co, T.n_co_programs, by show 1 < 1000; decide, ?_⟩
      obtain ⟨b1, b2, b3, b4, b5⟩ := step H1 M1 _ "programs" dp hdp hcM hco1 g1 im1
      exact hN _ _ ⟨dp, rfl, hdp, b1, b2, b3, b4, b5 _ _ gk1 (ne_id hco1 gk1).symm⟩
    rintro σ H2 ⟨dp, rfl, ndp, hco2, g2, im2, hdp, gk2⟩
    refine seq_join (fun σ H3 => ∃ du, σ = [some (.ref co), some (.ref x)] ∧ H2 du = none ∧ H3 co = some (.ins c.co dx [("own_server", .ref sv), ("programs", .ref dp), ("ups", .ref du)]) ∧ SvAt c H3 (du :: dp :: M1) sv [] ⟨[t], [], []⟩ sr ∧ Same (Msk H [co]) (Msk H3 (du :: dp :: M1)) ∧ H3 dp = some (.dK []) ∧ H3 du = some (.dK []) ∧ H3 sr.kd = some (.dK [])) (fun N hN => ?_) ?_
    · refine fun du hdu => ⟨_, rfl, co, c.co, dx, _, rfl, (same_upd hdu) _ _ hco2, T.cl_co, T.n_co_ups, by show 2 < 1000; decide, ?_⟩
      obtain ⟨b1, b2, b3, b4, b5⟩ := step H2 _ _ "ups" du hdu (List.mem_cons_of_mem _ hcM) hco2 g2 im2
      exact hN _ _ ⟨du, rfl, hdu, b1, b2, b3, b5 _ _ hdp (ne_id hco2 hdp).symm, b4, b5 _ _ gk2 (ne_id hco2 gk2).symm⟩
    rintro σ H3 ⟨du, rfl, ndu, hco3, g3, im3, hdp3, hdu3, gk3⟩
    refine fun dd hdd => ⟨_, rfl, co, c.co, dx, _, rfl, (same_upd hdd) _ _ hco3, T.cl_co, T.n_co_downs, by show 3 < 1000; decide, ?_⟩
    obtain ⟨b1, b2, b3, b4, b5⟩ := step H3 _ _ "downs" dd hdd (List.mem_cons_of_mem _ (List.mem_cons_of_mem _ hcM)) hco3 g3 im3
    refine q _ (dd :: du :: dp :: M1) ⟨dx, sv, dp, du, dd, sr, []⟩ b3 ⟨by simp [hcM], by simp, by simp, by simp, b1, b2, b5 _ _ gk3 (ne_id hco3 gk3).symm, b5 _ _ hdp3 (ne_id hco3 hdp3).symm, b5 _ _ hdu3 (ne_id hco3 hdu3).symm, b4, .nil, ?_, List.nodup_nil, by simp, ?_, gau⟩
    · unfold lsOf
      have := b2
      simp [this.td, this.ta, this.da]
    · have l1 := g1.live
      have nk : ∀ y, H1 y = none → sr.kd ≠ y ∧ sr.sp ≠ y := fun y hy => ⟨fun z => l1 _ g1.kM (by rw [z]; exact hy), fun z => l1 _ g1.pM (by rw [z]; exact hy)⟩
      have l2 := g2.live
      have nk2 : ∀ y, H2 y = none → sr.kd ≠ y ∧ sr.sp ≠ y ∧ dp ≠ y := fun y hy => ⟨fun z => l2 _ g2.kM (by rw [z]; exact hy), fun z => l2 _ g2.pM (by rw [z]; exact hy), ne_of_none hdp hy⟩
      have l3 := g3.live
      have nk3 : ∀ y, H3 y = none → sr.kd ≠ y ∧ sr.sp ≠ y ∧ dp ≠ y ∧ du ≠ y := fun y hy => ⟨fun z => l3 _ g3.kM (by rw [z]; exact hy), fun z => l3 _ g3.pM (by rw [z]; exact hy), ne_of_none hdp3 hy, ne_of_none hdu3 hy⟩
      have k1 := nk dp ndp
      have k2 := nk2 du ndu
      have k3 := nk3 dd hdd
      simp only [List.nodup_cons, List.mem_cons, List.not_mem_nil, or_false, not_or, List.nodup_nil, and_true, not_false_eq_true]
      exact ⟨⟨g1.kp, k1.1, k2.1, k3.1⟩, ⟨k1.2, k2.2.1, k3.2.1⟩, ⟨k2.2.2, k3.2.2.1⟩, k3.2.2.2⟩
/- Company.join: 0 self, 1 name, 2 kind, 3 version -/
theorem sc_Company_join : FnScope ["self", "name", "kind", "version"] ["self", "name", "kind"] (defScope s_Company_join) := ⟨rfl, rfl, rfl, by decide +kernel, rfl, by decide +kernel, by decide +kernel⟩
theorem bi_Company_join : BindsB "join" "Company.join" s_Company_join ["self", "name", "kind"] := fun _ _ _ _ _ _ us hl => match us, hl with | [_, _, _], _ => rfl
theorem nodup_join {A U D B : List Addr} {u d b : Addr} (h : (A ++ (U ++ (D ++ B))).Nodup) (hu : u ∉ A ++ (U ++ (D ++ B))) (hd : d ∉ A ++ (U ++ (D ++ B))) (hb : b ∉ A ++ (U ++ (D ++ B))) (h1 : u ≠ d) (h2 : u ≠ b) (h3 : d ≠ b) : (A ++ ((U ++ [u]) ++ ((D ++ [d]) ++ (B ++ [b])))).Nodup := by
  have hp : (A ++ ((U ++ [u]) ++ ((D ++ [d]) ++ (B ++ [b])))).Perm ((A ++ (U ++ (D ++ B))) ++ [u, d, b]) := by
    rw [List.perm_iff_count]
    intro a
    simp only [List.count_append, List.count_cons, List.count_nil]
    omega
  rw [hp.nodup_iff, List.nodup_append]
  refine ⟨h, by simp; exact ⟨⟨h1, h2⟩, h3⟩, fun x hx y hy z => ?_⟩
  subst z
  simp only [List.mem_cons, List.not_mem_nil, or_false] at hy
  rcases hy with z | z | z <;> subst z
  · exact hu hx
  · exact hd hx
  · exact hb hx
def CoS.joined (C : CoS) (nm : Str) (k : Kd) (t : List Int) : CoS := { C with ps := C.ps ++ [⟨nm, k, psNew C.S.deltas.length t, [], []⟩] }
def spCoJoin (c : Cs) : Sp := fun vs H Q _ => ∃ (co : Addr) (M : List Addr) (C : CoS) (r : CoR) (nm : Str) (k : Kd) (t : List Int), vs = [.ref co, .str nm, .str k.s] ∧ CoAt c H M co C r ∧ NmOk nm ∧ nm ∉ C.ps.map (·.nm) ∧ C.ps.length ≤ 50 ∧ C.S.deltas.length ≤ 1000 ∧ C.S.texts[C.S.texts.length - 1]? = some t ∧
  CoTo c H M co (C.joined nm k t) (.int (C.S.deltas.length : Nat)) Q
theorem ok_Company_join (T : Txt K mg c) (G_Server_join : MF P w K mg base 3 c.se "join" ["self", "name", "kind"] [] (spSvJoin c)) (G_Program_init : KF P w K mg base 3 "Program" c.pr ["self", "name", "kind", "text", "version"] (spPrInit c)) (G_Server_text0 : MF P w K mg base 3 c.se "text" ["self", "version"] [.non] (spSvText c)) : MF P w K mg base 5 c.co "join" ["self", "name", "kind"] [] (spCoJoin c) := by
  refine T.d_Company_join.mf sc_Company_join bi_Company_join (fun vs H Q E h => ?_) (fun f cdv A outer s H vs Q E hr h => ?_)
  · obtain ⟨co, M, C, r, nm, k, t, rfl, _⟩ := h
    rfl
  · obtain ⟨co, M, C, r, nm, k, t, rfl, hc, hnm, hnn, hpl, hdl, ht, q⟩ := h
    refine ⟨_, (pss_cons (ps_set (i := 3) sc_Company_join.nd rfl (Or.inl rfl) (pe_mf G_Server_join T.cl_se hr (pe_fld (pv 0) rfl) (pa_cons (pv 1) (pa_cons (pv 2) pa_nil))))
      (pss_cons (ps_dput (hu1 hr) (pe_fld (pv 0) rfl) (pv 1) (pe_kf G_Program_init hr (pa_cons (pv 1) (pa_cons (pv 2) (pa_cons (pe_mf0 G_Server_text0 T.cl_se hr (pe_fld (pv 0) rfl)) (pa_cons (pv 3) pa_nil))))) (by rfl))
      (pss_cons (ps_dput (hu1 hr) (pe_fld (pv 0) rfl) (pv 1) (pe_lst pa_nil) (by rfl))
      (pss_cons (ps_dput (hu1 hr) (pe_fld (pv 0) rfl) (pv 1) (pe_lst pa_nil) (by rfl))
      (pss_one (ps_ret (pv 3))))))), ?_⟩
    have hpr := pr_len hc.pg
    have hks : kOf (nmk C) nm = none := by
      unfold kOf valV
      rw [Option.map_eq_none_iff, List.find?_eq_none]
      intro kv hkv e
      unfold kvOf nmk at hkv
      rw [List.map_map] at hkv
      obtain ⟨y, h1, h2⟩ := List.mem_map.mp hkv
      have e := of_decide_eq_true e
      rw [← h2] at e
      exact hnn (List.mem_map.mpr ⟨y, h1, Sum.inr.inj e⟩)
    have hsv1 := hc.sv.setk (ks' := nmk C ++ [(nm, k)]) hc.kd
    have nck : co ≠ r.sr.kd := ne_id hc.ins hc.kd
    have hn := hc.dn
    simp only [List.nodup_cons, List.mem_cons, List.not_mem_nil, or_false, not_or, List.nodup_nil, and_true, not_false_eq_true] at hn
    obtain ⟨⟨n1, n2, n3, n4⟩, ⟨n5, n6, n7⟩, ⟨n8, n9⟩, n10⟩ := hn
    refine seq_join (fun σ H1 => σ = [some (.ref co), some (.str nm), some (.str k.s), some (.int (C.S.deltas.length : Nat))] ∧ H1 = upd H r.sr.kd (.dK (kvOf (nmk C ++ [(nm, k)])))) (fun N hN => ⟨_, rfl, co, c.co, r.dx, _, .ref r.s, rfl, hc.ins, T.cl_co, T.n_co_own_server, rfl, r.s, r.sr.dx, _, rfl, hc.sv.ins, rfl, _, rfl, _, rfl, r.s, M, nmk C, C.S, r.sr, nm, k, rfl, hc.sv, hc.kd, hnm, hks, by unfold nmk; rw [List.length_map]; omega, hN _ _ ⟨rfl, rfl⟩⟩) ?_
    rintro σ H1 ⟨rfl, hH1⟩
    have k1 : Same (Msk H [r.sr.kd, r.dp, r.du, r.dd]) H1 := fun b u e => by
      have nb : b ≠ r.sr.kd := fun z => by rw [z, msk_in (by simp)] at e; cases e
      rw [hH1, upd_ne nb]
      exact msk_same _ _ e
    have hco1 : H1 co = some (.ins c.co r.dx (coF r)) := by rw [hH1, upd_ne nck]; exact hc.ins
    rw [← hH1] at hsv1
    have hdp1 : H1 r.dp = some (.dK (nmv C (r.pr.map (·.pg)))) := by rw [hH1, upd_ne (fun z => n2 z.symm)]; exact hc.dp
    have hdu1 : H1 r.du = some (.dK (nmv C (r.pr.map (·.up)))) := by rw [hH1, upd_ne (fun z => n3 z.symm)]; exact hc.du
    have hdd1 : H1 r.dd = some (.dK (nmv C (r.pr.map (·.dn)))) := by rw [hH1, upd_ne (fun z => n4 z.symm)]; exact hc.dd
    have imm1 : Msk H1 M = Msk H M := by rw [hH1, msk_mut hc.sv.kM]
    have none1 : ∀ b, H1 b = none → H b = none := fun b e => by
      have nb : b ≠ r.sr.kd := fun z => by rw [z, hH1, upd_same] at e; cases e
      rw [hH1, upd_ne nb] at e
      exact e
    -- the program is made and stands under its name
    refine seq_join (fun σ H2 => ∃ pg rr, σ = [some (.ref co), some (.str nm), some (.str k.s), some (.int (C.S.deltas.length : Nat))] ∧ H1 pg = none ∧ H1 rr.bl = none ∧ pg ≠ rr.bl ∧ Same (Msk H1 [r.dp]) H2 ∧ H2 r.dp = some (.dK (nmv (C.joined nm k t) (r.pr.map (·.pg) ++ [pg]))) ∧ PrAt c H2 (rr.bl :: pg :: M) pg nm k (psNew C.S.deltas.length t) rr) (fun N hN => ?_) ?_
    · have htx : C.S.texts ≠ [] := fun z => by rw [z] at ht; simp at ht
      obtain ⟨pt, t2, hpt, ht2, hT⟩ := hsv1.last htx
      obtain rfl : t2 = t := Option.some.inj (ht2.symm.trans ht)
      refine ⟨_, rfl, _, rfl, _, rfl, co, c.co, r.dx, _, .ref r.s, rfl, hco1, T.cl_co, T.n_co_own_server, rfl, r.s, r.sr.dx, _, rfl, hsv1.ins, rfl, r.s, M, _, C.S, r.sr, pt, rfl, hsv1, hpt, _, rfl, fun pg px np npx npe => ?_⟩
      have s1 : Same H1 (upd (upd H1 px (.own pg)) pg (.ins c.pr px [])) := fun b u e => by
        rw [upd_ne (ne_of_none e np), upd_ne (ne_of_none e npx)]
        exact e
      refine ⟨pg, px, pt, M, nm, k, C.S.deltas.length, t2, rfl, upd_same, hnm, hT.mono fun b u e => ?_, by omega, fun m hm => dom_same s1 m (hsv1.live m hm), fun H2 rr s2 nb hP => ⟨rfl, ?_⟩⟩
      · have nb : b ∉ M := fun z => by rw [msk_in z] at e; cases e
        rw [msk_at nb] at e
        rw [msk_at (by simp; exact ⟨ne_of_none e np, nb⟩)]
        exact s1 _ _ e
      have s12 : Same H1 H2 := fun b u e => by
        refine s2 b u ?_
        rw [msk_at (by simpa using ne_of_none e np)]
        exact s1 _ _ e
      have hdp2 := s12 _ _ hdp1
      have hput := DPut.k (H := H2) (a := r.dp) (k := .inr nm) (v := .ref pg) hdp2 (szlt _ (by
        have := congrArg List.length (nmv_keys (C := C) (as := r.pr.map (·.pg)) (by rw [List.length_map]; exact hpr))
        simp at this
        omega))
      rw [putK_nm (x := ⟨nm, k, psNew C.S.deltas.length t2, [], []⟩) rfl (by rw [List.length_map]; exact hpr) hnn] at hput
      have nb1 : H1 rr.bl = none := by
        cases e : H1 rr.bl with
        | none => rfl
        | some o => rw [s1 _ _ e] at nb; cases nb
      have npb : pg ≠ rr.bl := fun z => by rw [← z, upd_same] at nb; cases nb
      refine ⟨_, rfl, co, c.co, r.dx, _, .ref r.dp, rfl, s12 _ _ hco1, T.cl_co, T.n_co_programs, rfl, _, rfl, r.dp, _, rfl, hput, hN _ _ ⟨pg, rr, rfl, np, nb1, npb, ?_, upd_same, ?_⟩⟩
      · intro b u e
        have nbd : b ≠ r.dp := fun z => by rw [z, msk_in (by simp)] at e; cases e
        rw [upd_ne nbd]
        exact s12 _ _ (msk_same _ _ e)
      · exact hP.frame (M' := rr.bl :: pg :: M) (upd_ne (ne_id hP.ins hdp2)) (upd_ne (ne_ld hP.lst hdp2)) (by rw [msk_mut (by simp [hc.pM])]; exact same_refl) (fun _ z => z) (fun b hb => dom_upd b (hP.live b hb))
    rintro σ H2 ⟨pg, rr, rfl, npg, nbl, npb, k2, hdp2, hP2⟩
    have up2 : ∀ b u, b ≠ r.dp → H1 b = some u → H2 b = some u := fun b u nb e => k2 b u (by rw [msk_at (by simpa using nb)]; exact e)
    have hco2 := up2 _ _ (ne_id hc.ins hc.dp) hco1
    have hdu2 := up2 _ _ (fun z => n8 z.symm) hdu1
    have hdd2 := up2 _ _ (fun z => n9 z.symm) hdd1
    have hkl : ∀ as : List Addr, as.length = C.ps.length → (nmv C as).length < sizeLine := fun as hl => szlt _ (by
      have := congrArg List.length (nmv_keys (C := C) (as := as) hl)
      simp at this
      omega)
    refine seq_join (fun σ H3 => ∃ up, σ = [some (.ref co), some (.str nm), some (.str k.s), some (.int (C.S.deltas.length : Nat))] ∧ H2 up = none ∧ Same (Msk H2 [r.du]) H3 ∧ H3 r.du = some (.dK (nmv (C.joined nm k t) (r.pr.map (·.up) ++ [up]))) ∧ H3 up = some (.lst [])) (fun N hN => ?_) ?_
    · refine ⟨lk 0 (by decide), fun up hup => ?_⟩
      have hdu3 := (same_upd (o := .lst []) hup) _ _ hdu2
      have hput := DPut.k (H := upd H2 up (.lst [])) (a := r.du) (k := .inr nm) (v := .ref up) hdu3 (hkl _ (by rw [List.length_map]; exact hpr))
      rw [putK_nm (x := ⟨nm, k, psNew C.S.deltas.length t, [], []⟩) rfl (by rw [List.length_map]; exact hpr) hnn] at hput
      refine ⟨_, rfl, co, c.co, r.dx, _, .ref r.du, rfl, (same_upd hup) _ _ hco2, T.cl_co, T.n_co_ups, rfl, _, rfl, r.du, _, rfl, hput, hN _ _ ⟨up, rfl, hup, ?_, upd_same, ?_⟩⟩
      · intro b u e
        have nbd : b ≠ r.du := fun z => by rw [z, msk_in (by simp)] at e; cases e
        rw [upd_ne nbd]
        exact (same_upd hup) _ _ (msk_same _ _ e)
      · rw [upd_ne (ne_of_none hdu2 hup).symm]
        exact upd_same
    rintro σ H3 ⟨up, rfl, nup, k3, hdu3, hup3⟩
    have up3 : ∀ b u, b ≠ r.du → H2 b = some u → H3 b = some u := fun b u nb e => k3 b u (by rw [msk_at (by simpa using nb)]; exact e)
    have hco3 := up3 _ _ (ne_id hc.ins hc.du) hco2
    have hdd3 := up3 _ _ (fun z => n10 z.symm) hdd2
    have hdp3 := up3 _ _ (fun z => n8 z) hdp2
    refine seq_join (fun σ H4 => ∃ dn, σ = [some (.ref co), some (.str nm), some (.str k.s), some (.int (C.S.deltas.length : Nat))] ∧ H3 dn = none ∧ Same (Msk H3 [r.dd]) H4 ∧ H4 r.dd = some (.dK (nmv (C.joined nm k t) (r.pr.map (·.dn) ++ [dn]))) ∧ H4 dn = some (.lst [])) (fun N hN => ?_) ?_
    · refine ⟨lk 0 (by decide), fun dn hdn => ?_⟩
      have hdd4 := (same_upd (o := .lst []) hdn) _ _ hdd3
      have hput := DPut.k (H := upd H3 dn (.lst [])) (a := r.dd) (k := .inr nm) (v := .ref dn) hdd4 (hkl _ (by rw [List.length_map]; exact hpr))
      rw [putK_nm (x := ⟨nm, k, psNew C.S.deltas.length t, [], []⟩) rfl (by rw [List.length_map]; exact hpr) hnn] at hput
      refine ⟨_, rfl, co, c.co, r.dx, _, .ref r.dd, rfl, (same_upd hdn) _ _ hco3, T.cl_co, T.n_co_downs, rfl, _, rfl, r.dd, _, rfl, hput, hN _ _ ⟨dn, rfl, hdn, ?_, upd_same, ?_⟩⟩
      · intro b u e
        have nbd : b ≠ r.dd := fun z => by rw [z, msk_in (by simp)] at e; cases e
        rw [upd_ne nbd]
        exact (same_upd hdn) _ _ (msk_same _ _ e)
      · rw [upd_ne (ne_of_none hdd3 hdn).symm]
        exact upd_same
    rintro σ H4 ⟨dn, rfl, ndn, k4, hdd4, hdn4⟩
    have up4 : ∀ b u, b ≠ r.dd → H3 b = some u → H4 b = some u := fun b u nb e => k4 b u (by rw [msk_at (by simpa using nb)]; exact e)
    have hco4 := up4 _ _ (ne_id hc.ins hc.dd) hco3
    have hdp4 := up4 _ _ (fun z => n9 z) hdp3
    have hdu4 := up4 _ _ (fun z => n10 z) hdu3
    have hup4 := up4 _ _ (ne_ld hup3 hdd3) hup3
    -- what stood, stands
    have from1 : ∀ b u, b ≠ r.dp → b ≠ r.du → b ≠ r.dd → H1 b = some u → H4 b = some u := fun b u a1 a2 a3 e => up4 b u a3 (up3 b u a2 (up2 b u a1 e))
    have fromH : ∀ b u, b ≠ r.sr.kd → b ≠ r.dp → b ≠ r.du → b ≠ r.dd → H b = some u → H4 b = some u := fun b u a0 a1 a2 a3 e => from1 b u a1 a2 a3 (by rw [hH1, upd_ne a0]; exact e)
    have l4 : ∀ y, y ∈ [r.sr.kd, r.dp, r.du, r.dd] → H1 y ≠ none ∧ H2 y ≠ none ∧ H3 y ≠ none := fun y hy => by
      simp only [List.mem_cons, List.not_mem_nil, or_false] at hy
      rcases hy with z | z | z | z <;> subst z
      · have e1 : H1 r.sr.kd ≠ none := by rw [hH1, upd_same]; intro z; cases z
        refine ⟨e1, ?_, ?_⟩
        all_goals
          cases e : H1 r.sr.kd with
          | none => exact absurd e e1
          | some u =>
            have e2 := up2 _ _ n2 e
            first
              | (rw [e2]; intro z; cases z)
              | (rw [up3 _ _ n3 e2]; intro z; cases z)
      · exact ⟨(by rw [hdp1]; intro z; cases z), (by rw [hdp2]; intro z; cases z), (by rw [hdp3]; intro z; cases z)⟩
      · exact ⟨(by rw [hdu1]; intro z; cases z), (by rw [hdu2]; intro z; cases z), (by rw [hdu3]; intro z; cases z)⟩
      · exact ⟨(by rw [hdd1]; intro z; cases z), (by rw [hdd2]; intro z; cases z), (by rw [hdd3]; intro z; cases z)⟩
    have new1 : ∀ b, H2 b = none → H1 b = none := fun b e => by
      cases e1 : H1 b with
      | none => rfl
      | some u =>
        have nb : b ≠ r.dp := fun z => (l4 r.dp (by simp)).2.1 (by rw [← z]; exact e)
        rw [up2 b u nb e1] at e
        cases e
    have new2 : ∀ b, H3 b = none → H2 b = none := fun b e => by
      cases e1 : H2 b with
      | none => rfl
      | some u =>
        have nb : b ≠ r.du := fun z => (l4 r.du (by simp)).2.2 (by rw [← z]; exact e)
        rw [up3 b u nb e1] at e
        cases e
    have nupH := none1 _ (new1 _ nup)
    have ndnH := none1 _ (new1 _ (new2 _ ndn))
    have npgH := none1 _ npg
    have nblH := none1 _ nbl
    have imm : Same (Msk H M) (Msk H4 (dn :: up :: rr.bl :: pg :: M)) := fun b u e => by
      have nM : b ∉ M := fun z => by rw [msk_in z] at e; cases e
      rw [msk_at nM] at e
      rw [msk_at (by
        simp only [List.mem_cons, not_or]
        exact ⟨ne_of_none e ndnH, ne_of_none e nupH, ne_of_none e nblH, ne_of_none e npgH, nM⟩)]
      exact fromH b u (fun z => nM (by rw [z]; exact hc.sv.kM)) (fun z => nM (by rw [z]; exact hc.pM)) (fun z => nM (by rw [z]; exact hc.uM)) (fun z => nM (by rw [z]; exact hc.dM)) e
    have sub : ∀ m ∈ M, m ∈ dn :: up :: rr.bl :: pg :: M := fun m hm => by simp [hm]
    have hpg4 : H4 pg = some (.ins c.pr rr.dx (prF nm k C.S.deltas.length rr)) := up4 _ _ (ne_id hP2.ins hdd2) (up3 _ _ (ne_id hP2.ins hdu2) hP2.ins)
    have hbl4 : H4 rr.bl = some (.lst (rr.bs.map V.ref)) := up4 _ _ (ne_ld hP2.lst hdd2) (up3 _ _ (ne_ld hP2.lst hdu2) hP2.lst)
    have live : ∀ m ∈ dn :: up :: rr.bl :: pg :: M, H4 m ≠ none := fun m hm => by
      simp only [List.mem_cons] at hm
      rcases hm with z | z | z | z | z
      · rw [z, hdn4]; intro y; cases y
      · rw [z, hup4]; intro y; cases y
      · rw [z, hbl4]; intro y; cases y
      · rw [z, hpg4]; intro y; cases y
      · by_cases a0 : m = r.dp
        · rw [a0, hdp4]; intro y; cases y
        · by_cases a1 : m = r.du
          · rw [a1, hdu4]; intro y; cases y
          · by_cases a2 : m = r.dd
            · rw [a2, hdd4]; intro y; cases y
            · cases e : H1 m with
              | none => exact absurd e (hsv1.live m z)
              | some u => rw [from1 m u a0 a1 a2 e]; intro y; cases y
    have hls : ∀ b ∈ lsOf r, H b ≠ none := fun b hb => by
      unfold lsOf at hb
      simp only [List.mem_append, List.mem_cons, List.not_mem_nil, or_false, List.mem_map] at hb
      rcases hb with (z | z | z) | ⟨q, hq, z⟩ | ⟨q, hq, z⟩ | ⟨q, hq, z⟩
      · rw [z, hc.sv.tls]; intro y; cases y
      · rw [z, hc.sv.dls]; intro y; cases y
      · rw [z, hc.sv.als]; intro y; cases y
      all_goals
        obtain ⟨j, hj⟩ := List.getElem?_of_mem hq
        obtain ⟨xq, hxq, hqq⟩ := pr_at2 hc.pg hj
      · obtain ⟨xs, e⟩ := hqq.uL; rw [← z, e]; intro y; cases y
      · obtain ⟨xs, e⟩ := hqq.dL; rw [← z, e]; intro y; cases y
      · rw [← z, hqq.pr.lst]; intro y; cases y
    have notl : ∀ b, H b = none → b ∉ lsOf r := fun b e z => hls b z e
    have enk : nmk (C.joined nm k t) = nmk C ++ [(nm, k)] := by
      unfold nmk CoS.joined
      rw [List.map_append]
      rfl
    have hbu : rr.bl ≠ up := ne_of_none hP2.lst nup
    have hpu : pg ≠ up := ne_of_none hP2.ins nup
    have hud : up ≠ dn := ne_of_none hup3 ndn
    have hbl3 := up3 _ _ (ne_ld hP2.lst hdu2) hP2.lst
    have hpg3 := up3 _ _ (ne_id hP2.ins hdu2) hP2.ins
    have hbd : rr.bl ≠ dn := ne_of_none hbl3 ndn
    have hpd : pg ≠ dn := ne_of_none hpg3 ndn
    refine ⟨_, rfl, q H4 (dn :: up :: rr.bl :: pg :: M) { r with pr := r.pr ++ [⟨pg, up, dn, rr⟩] } imm ⟨sub _ hc.cM, sub _ hc.pM, sub _ hc.uM, sub _ hc.dM, hco4, ?_, ?_, ?_, ?_, ?_, ?_, ?_, ?_, ?_, hc.dn, hc.au⟩⟩
    · rw [enk]
      refine hsv1.frame (fun b hb => ?_) (by rw [imm1]; exact imm) sub live
      have : b ≠ r.dp ∧ b ≠ r.du ∧ b ≠ r.dd ∧ H1 b ≠ none := by
        simp only [List.mem_cons, List.not_mem_nil, or_false] at hb
        rcases hb with z | z | z | z | z | z <;> subst z
        · exact ⟨ne_id hc.sv.ins hc.dp, ne_id hc.sv.ins hc.du, ne_id hc.sv.ins hc.dd, hsv1.live _ hsv1.sM⟩
        · exact ⟨ne_ld hc.sv.tls hc.dp, ne_ld hc.sv.tls hc.du, ne_ld hc.sv.tls hc.dd, hsv1.live _ hsv1.tM⟩
        · exact ⟨ne_ld hc.sv.dls hc.dp, ne_ld hc.sv.dls hc.du, ne_ld hc.sv.dls hc.dd, hsv1.live _ hsv1.dM⟩
        · exact ⟨ne_ld hc.sv.als hc.dp, ne_ld hc.sv.als hc.du, ne_ld hc.sv.als hc.dd, hsv1.live _ hsv1.aM⟩
        · exact ⟨n2, n3, n4, hsv1.live _ hsv1.kM⟩
        · exact ⟨n5, n6, n7, hsv1.live _ hsv1.pM⟩
      obtain ⟨a1, a2, a3, a4⟩ := this
      cases e : H1 b with
      | none => exact absurd e a4
      | some u => exact from1 b u a1 a2 a3 e
    · rw [enk]
      refine from1 _ _ n2 n3 n4 ?_
      rw [hH1]
      exact upd_same
    · show H4 r.dp = some (.dK (nmv _ (((r.pr ++ [⟨pg, up, dn, rr⟩] : List PgR)).map (·.pg))))
      rw [List.map_append]
      exact hdp4
    · show H4 r.du = some (.dK (nmv _ (((r.pr ++ [⟨pg, up, dn, rr⟩] : List PgR)).map (·.up))))
      rw [List.map_append]
      exact hdu4
    · show H4 r.dd = some (.dK (nmv _ (((r.pr ++ [⟨pg, up, dn, rr⟩] : List PgR)).map (·.dn))))
      rw [List.map_append]
      exact hdd4
    · refine pr_app (pr_mk hpr fun j a b ha hb => ?_) (.cons ?_ .nil)
      · obtain ⟨a2, ha2, hab⟩ := hc.at_ hb
        obtain rfl : a2 = a := Option.some.inj (ha2.symm.trans ha)
        obtain ⟨xu, hu⟩ := hab.uL
        obtain ⟨xd, hd⟩ := hab.dL
        exact hab.frame ((fromH _ _ (ne_id hab.pr.ins hc.kd) (ne_id hab.pr.ins hc.dp) (ne_id hab.pr.ins hc.du) (ne_id hab.pr.ins hc.dd) hab.pr.ins).trans hab.pr.ins.symm) ((fromH _ _ (ne_ld hab.pr.lst hc.kd) (ne_ld hab.pr.lst hc.dp) (ne_ld hab.pr.lst hc.du) (ne_ld hab.pr.lst hc.dd) hab.pr.lst).trans hab.pr.lst.symm)
          ((fromH _ _ (ne_ld hu hc.kd) (ne_ld hu hc.dp) (ne_ld hu hc.du) (ne_ld hu hc.dd) hu).trans hu.symm) ((fromH _ _ (ne_ld hd hc.kd) (ne_ld hd hc.dp) (ne_ld hd hc.du) (ne_ld hd hc.dd) hd).trans hd.symm) imm sub live
      · refine ⟨hP2.frame (hpg4.trans hP2.ins.symm) (hbl4.trans hP2.lst.symm) (fun b u e => ?_) (fun m hm => by simp at hm ⊢; rcases hm with z | z | z <;> simp [z]) live, by simp, by simp, ⟨[], hup4, .nil⟩, ⟨[], hdn4, .nil⟩⟩
        have nM : b ∉ rr.bl :: pg :: M := fun z => by rw [msk_in z] at e; cases e
        rw [msk_at nM] at e
        simp only [List.mem_cons, not_or] at nM
        have e3 := up3 b u (fun z => nM.2.2 (by rw [z]; exact hc.uM)) e
        rw [msk_at (by
          simp only [List.mem_cons, not_or]
          exact ⟨ne_of_none e3 ndn, ne_of_none e nup, nM.1, nM.2.1, nM.2.2⟩)]
        exact up4 b u (fun z => nM.2.2 (by rw [z]; exact hc.dM)) e3
    · unfold lsOf
      show ([r.sr.tl, r.sr.dl, r.sr.al] ++ (((r.pr ++ [⟨pg, up, dn, rr⟩] : List PgR)).map (·.up) ++ (((r.pr ++ [⟨pg, up, dn, rr⟩] : List PgR)).map (·.dn) ++ ((r.pr ++ [⟨pg, up, dn, rr⟩] : List PgR)).map (·.r.bl)))).Nodup
      rw [List.map_append, List.map_append, List.map_append]
      exact nodup_join hc.ls (notl _ nupH) (notl _ ndnH) (notl _ nblH) hud hbu.symm hbd.symm
    · show ((C.ps ++ [⟨nm, k, psNew C.S.deltas.length t, [], []⟩] : List PgS).map (·.nm)).Nodup
      rw [List.map_append, List.nodup_append]
      refine ⟨hc.nn, by simp, fun x hx y hy z => ?_⟩
      have : y = nm := by simpa using hy
      exact hnn (by rw [← this, ← z]; exact hx)
    · intro y hy
      have hy : y ∈ C.ps ++ [⟨nm, k, psNew C.S.deltas.length t, [], []⟩] := hy
      rcases List.mem_append.mp hy with z | z
      · exact hc.ok y z
      · rw [List.mem_singleton.mp z]
        exact hnm
end
end Tc
/-! # The plain law, part 6: two deltas on one text, one delta behind another -/
namespace Tc
theorem appTo_ln (D : Dl) (t : List Int) : ∀ k, (appTo D t k).length = ptr D k
  | 0 => rfl
  | k + 1 => by
    rw [appTo_succ, List.length_append, appTo_ln D t k]
    unfold gapc
    rw [List.length_append]
    show _ = ptr D k + _ + _
    split <;> simp <;> omega
/-- both on one text, gap by gap -/
def mrgAt (D E : Dl) (f : Bool) (t : List Int) (g : Nat) : List Int := (if f then D.ps.getD g [] ++ E.ps.getD g [] else E.ps.getD g [] ++ D.ps.getD g []) ++ (if D.ds[g]? = some false ∧ E.ds[g]? = some false then [t.getD g 0] else [])
def mrgTo (D E : Dl) (f : Bool) (t : List Int) (k : Nat) : List Int := (List.range k).flatMap (mrgAt D E f t)
theorem mrg_swap (D E : Dl) (f : Bool) (t : List Int) : ∀ k, mrgTo D E f t k = mrgTo E D (!f) t k := fun k => by
  refine flatMap_congr _ _ k fun g _ => ?_
  unfold mrgAt
  have e : (if D.ds[g]? = some false ∧ E.ds[g]? = some false then [t.getD g 0] else []) = (if E.ds[g]? = some false ∧ D.ds[g]? = some false then [t.getD g 0] else []) := by
    by_cases h : D.ds[g]? = some false ∧ E.ds[g]? = some false
    · rw [if_pos h, if_pos ⟨h.2, h.1⟩]
    · rw [if_neg h, if_neg fun z => h ⟨z.2, z.1⟩]
  rw [e]
  cases f <;> rfl
theorem rdo_besides (cs es : List Int) (f : Bool) (rs : List Row) (u : List Int) : rdo (besides cs es.length f ++ rs) (es ++ u) = (if f then cs ++ es else es ++ cs) ++ rdo rs u := by
  cases f with
  | true =>
    show cs ++ ((es ++ u).take es.length ++ rdo rs ((es ++ u).drop es.length)) = _
    rw [List.take_left, List.drop_left, ← List.append_assoc]
    rfl
  | false =>
    show (es ++ u).take es.length ++ (cs ++ rdo rs ((es ++ u).drop es.length)) = _
    rw [List.take_left, List.drop_left, ← List.append_assoc]
    rfl
theorem rdr_besides (cs es : List Int) (f : Bool) (rs : List Row) (u : List Int) : rdr (besides cs es.length f ++ rs) (es ++ u) = rdr rs u := by
  cases f with
  | true =>
    show rdr rs ((es ++ u).drop es.length) = _
    rw [List.drop_left]
  | false =>
    show rdr rs ((es ++ u).drop es.length) = _
    rw [List.drop_left]
theorem ds_lt {D : Dl} {g : Nat} (h : g < D.ds.length) : D.ds[g]? = some true ∨ D.ds[g]? = some false := by
  rw [List.getElem?_eq_getElem h]
  cases D.ds[g] with
  | true => exact .inl rfl
  | false => exact .inr rfl
theorem over_rdo (D E : Dl) (f : Bool) (t : List Int) (hl : E.ds.length = D.ds.length) : ∀ k, rdo (overTo D E f k) (appTo E t k) = mrgTo D E f t k
  | 0 => rfl
  | k + 1 => by
    have hb : (appTo E t k).length = before (overTo D E f k) := by rw [over_before, appTo_ln]
    show rdo ((List.range (k + 1)).flatMap _) _ = (List.range (k + 1)).flatMap _
    rw [frange_succ, frange_succ, appTo_succ]
    show rdo (overTo D E f k ++ overAt D E f k) (appTo E t k ++ gapc E t k) = mrgTo D E f t k ++ mrgAt D E f t k
    rw [run_append _ _ _ _ hb, over_rdo D E f t hl k]
    unfold overAt gapc mrgAt
    rw [rdo_besides]
    refine congrArg (fun z => mrgTo D E f t k ++ ((if f then D.ps.getD k [] ++ E.ps.getD k [] else E.ps.getD k [] ++ D.ps.getD k []) ++ z)) ?_
    by_cases he : E.ds[k]? = some false
    · rw [if_pos he, if_pos he]
      have hk := (List.getElem?_eq_some_iff.mp he).1
      rcases ds_lt (D := D) (g := k) (by omega) with h | h
      · rw [h, if_neg (by intro z; cases z.1)]
        rfl
      · rw [h, if_pos ⟨rfl, he⟩]
        rfl
    · rw [if_neg he, if_neg he, if_neg fun z => he z.2]
      rfl
theorem over_app {D E : Dl} (f : Bool) {t : List Int} (wD : D.Wf) (wE : E.Wf) (hl : E.ds.length = D.ds.length) (ht : t.length = D.ds.length) : app (gaps (over D E f)) (app E t) = mrgTo D E f t (D.ds.length + 1) := by
  have h1 : (app E t).length = before (over D E f) := by
    show (appTo E t (E.ds.length + 1)).length = before (overTo D E f (D.ds.length + 1))
    rw [over_before, ← hl, appTo_ln]
  rw [app_gaps _ _ h1]
  show rdo (overTo D E f (D.ds.length + 1)) (appTo E t (E.ds.length + 1)) = _
  rw [hl]
  exact over_rdo D E f t hl _
/-- two deltas on one text, one behind the other, both ways -/
theorem tp1 {D E : Dl} (f : Bool) {t : List Int} (wD : D.Wf) (wE : E.Wf) (hl : E.ds.length = D.ds.length) (ht : t.length = D.ds.length) : app (gaps (over D E f)) (app E t) = app (gaps (over E D (!f))) (app D t) := by
  rw [over_app f wD wE hl ht, over_app (!f) wE wD hl.symm (ht.trans hl.symm), mrg_swap, hl]
/-- what the one drops behind the other, it drops on the text -/
theorem over_rdr (D E : Dl) (f : Bool) (t : List Int) (hl : E.ds.length = D.ds.length) : ∀ k, (rdr (overTo D E f k) (appTo E t k)).Sublist (drTo D t k)
  | 0 => List.Sublist.refl _
  | k + 1 => by
    have hb : (appTo E t k).length = before (overTo D E f k) := by rw [over_before, appTo_ln]
    show (rdr ((List.range (k + 1)).flatMap _) _).Sublist _
    rw [frange_succ, appTo_succ, drTo_succ]
    show (rdr (overTo D E f k ++ overAt D E f k) (appTo E t k ++ gapc E t k)).Sublist _
    rw [rdr_append _ _ _ _ hb]
    refine List.Sublist.append (over_rdr D E f t hl k) ?_
    unfold overAt gapc
    rw [rdr_besides]
    by_cases he : E.ds[k]? = some false
    · rw [if_pos he, if_pos he]
      have hk := (List.getElem?_eq_some_iff.mp he).1
      rcases ds_lt (D := D) (g := k) (by omega) with h | h
      · rw [h, if_pos rfl]
        exact List.Sublist.refl _
      · rw [h, if_neg (by intro z; cases z)]
        exact List.Sublist.refl _
    · rw [if_neg he, if_neg he]
      exact List.nil_sublist _
theorem over_dr {D E : Dl} (f : Bool) {t : List Int} (wE : E.Wf) (hl : E.ds.length = D.ds.length) : (dr (gaps (over D E f)) (app E t)).Sublist (dr D t) := by
  have h1 : (app E t).length = before (over D E f) := by
    show (appTo E t (E.ds.length + 1)).length = before (overTo D E f (D.ds.length + 1))
    rw [over_before, ← hl, appTo_ln]
  rw [dr_gaps _ _ h1]
  have := over_rdr D E f t hl (D.ds.length + 1)
  rw [drTo_succ, List.getElem?_eq_none (Nat.le_refl _), if_neg (by intro z; cases z), List.append_nil] at this
  show (rdr (overTo D E f (D.ds.length + 1)) (appTo E t (E.ds.length + 1))).Sublist (drTo D t D.ds.length)
  rw [hl]
  exact this
/-! ## One behind another -/
theorem app_pre (D : Dl) (t : List Int) {k m : Nat} (h : k ≤ m) : ∃ r, appTo D t m = appTo D t k ++ r := by
  induction m with
  | zero => exact ⟨[], by rw [Nat.le_zero.mp h]; rfl⟩
  | succ m ih =>
    by_cases e : k = m + 1
    · exact ⟨[], by rw [e, List.append_nil]⟩
    · obtain ⟨r, hr⟩ := ih (by omega)
      exact ⟨r ++ gapc D t m, by rw [appTo_succ, hr, List.append_assoc]⟩
theorem getD_mid {a b c : List Int} {i : Nat} (h : i < b.length) : (a ++ (b ++ c)).getD (a.length + i) 0 = b.getD i 0 := by
  rw [List.getD_eq_getElem?_getD, List.getD_eq_getElem?_getD, List.getElem?_append_right (by omega), Nat.add_sub_cancel_left, List.getElem?_append_left h]
theorem getD_end {a b c : List Int} {x : Int} : (a ++ (b ++ (x :: c))).getD (a.length + b.length) 0 = x := by
  rw [List.getD_eq_getElem?_getD, List.getElem?_append_right (by omega), Nat.add_sub_cancel_left, List.getElem?_append_right (by omega), Nat.sub_self]
  rfl
theorem compTo_bef {D E : Dl} : ∀ k, k ≤ D.ds.length → before (compTo D E k) = k
  | 0, _ => rfl
  | k + 1, h => by
    show before ((List.range (k + 1)).flatMap _) = _
    rw [frange_succ, before_append]
    show before (compTo D E k) + before (compAt D E k) = _
    rw [compTo_bef k (by omega)]
    unfold compAt compCs
    rw [before_append, ccTo_before]
    rcases ds_lt (D := D) (g := k) (by omega) with e | e <;> rw [e]
    · rfl
    · show k + (0 + (0 + before [rowOf _ 1])) = _
      rw [rowOf_before]
theorem not_true {E : Dl} {p : Nat} (h : p < E.ds.length) (x : Int) : (if E.ds[p]? = some true then [] else [x]) = (if E.ds[p]? = some false then [x] else []) := by
  rcases ds_lt h with e | e <;> rw [e] <;> rfl
/-- the characters of one put, past the later delta -/
theorem cc_rdo {E : Dl} {u : List Int} {p : Nat} {cs : List Int} (hu : ∀ i, i < cs.length → u.getD (p + i) 0 = cs.getD i 0) (hp : p + cs.length ≤ E.ds.length) (rs : List Row) (v : List Int) : ∀ j, j ≤ cs.length → appTo E u p ++ rdo (ccTo E p cs j ++ rs) v = appTo E u (p + j) ++ rdo rs v
  | 0, _ => rfl
  | j + 1, h => by
    have ih := cc_rdo hu hp (ccAt E p cs j ++ rs) v j (by omega)
    show _ ++ rdo ((List.range (j + 1)).flatMap _ ++ rs) v = _
    rw [frange_succ, List.append_assoc]
    show _ ++ rdo (ccTo E p cs j ++ (ccAt E p cs j ++ rs)) v = _
    rw [ih, ← Nat.add_assoc, appTo_succ]
    show _ ++ (E.ps.getD (p + j) [] ++ ((if E.ds[p + j]? = some true then [] else [cs.getD j 0]) ++ rdo rs v)) = _
    unfold gapc
    rw [not_true (by omega), hu j (by omega), List.append_assoc, List.append_assoc]
theorem comp_rdo {D E : Dl} {t : List Int} (wD : D.Wf) (hE : E.ds.length = aft D) (ht : t.length = D.ds.length) : ∀ k, k ≤ D.ds.length → rdo (compTo D E k) (t.take k) = appTo E (app D t) (ptr D k)
  | 0, _ => rfl
  | k + 1, h => by
    have ih := comp_rdo wD hE ht k (by omega)
    have hb : (t.take k).length = before (compTo D E k) := by rw [compTo_bef k (by omega), List.length_take]; omega
    have htk : t[k]? = some (t.getD k 0) := by
      rw [List.getD_eq_getElem?_getD, List.getElem?_eq_getElem (by omega)]
      rfl
    show rdo ((List.range (k + 1)).flatMap _) _ = _
    rw [frange_succ, take_snoc htk]
    show rdo (compTo D E k ++ compAt D E k) (t.take k ++ [t.getD k 0]) = _
    rw [run_append _ _ _ _ hb, ih]
    obtain ⟨r, hr⟩ := app_pre D t (show k + 1 ≤ D.ds.length + 1 by omega)
    have hr : app D t = appTo D t (k + 1) ++ r := hr
    rw [appTo_succ] at hr
    unfold gapc at hr
    have hln := appTo_ln D t k
    have hm := ptr_mono D (show k + 1 ≤ D.ds.length + 1 by omega)
    rw [ptr_all wD, ← hE] at hm
    have hm2 : ptr D k + (D.ps.getD k []).length + (if D.ds[k]? = some false then 1 else 0) ≤ E.ds.length := hm
    have hu : ∀ i, i < (D.ps.getD k []).length → (app D t).getD (ptr D k + i) 0 = (D.ps.getD k []).getD i 0 := fun i hi => by
      rw [hr, List.append_assoc, List.append_assoc, ← hln]
      exact getD_mid hi
    unfold compAt compCs
    rw [cc_rdo hu (by omega) _ _ _ (Nat.le_refl _)]
    show _ = appTo E (app D t) (ptr D k + (D.ps.getD k []).length + (if D.ds[k]? = some false then 1 else 0))
    rcases ds_lt (D := D) (g := k) (by omega) with e | e
    · rw [e, if_neg (by intro z; cases z)]
      show _ ++ [] = _
      rw [List.append_nil]
      rfl
    · rw [e, if_pos rfl, appTo_succ]
      rw [e, if_pos rfl] at hm2
      have hx : (app D t).getD (ptr D k + (D.ps.getD k []).length) 0 = t.getD k 0 := by
        rw [hr, e, if_pos rfl, List.append_assoc, List.append_assoc, ← hln]
        exact getD_end
      refine congrArg (appTo E (app D t) (ptr D k + (D.ps.getD k []).length) ++ ·) ?_
      unfold gapc
      rw [hx]
      show E.ps.getD _ [] ++ rdo [rowOf _ 1] [t.getD k 0] = _
      refine congrArg (E.ps.getD (ptr D k + (D.ps.getD k []).length) [] ++ ·) ?_
      rcases ds_lt (D := E) (g := ptr D k + (D.ps.getD k []).length) (by omega) with e2 | e2 <;> rw [e2] <;> rfl
theorem comp_app {D E : Dl} {t : List Int} (wD : D.Wf) (hE : E.ds.length = aft D) (ht : t.length = D.ds.length) : app (gaps (comp D E)) t = app E (app D t) := by
  have hb0 := compTo_bef (E := E) D.ds.length (Nat.le_refl _)
  have hlast : before (compAt D E D.ds.length) = 0 := by
    unfold compAt compCs
    rw [before_append, ccTo_before, List.getElem?_eq_none (Nat.le_refl _)]
    rfl
  have hb : t.length = before (comp D E) := by
    show _ = before ((List.range (D.ds.length + 1)).flatMap _)
    rw [frange_succ, before_append]
    show _ = before (compTo D E D.ds.length) + _
    rw [hb0, hlast, ht]
    rfl
  rw [app_gaps _ _ hb]
  show rdo ((List.range (D.ds.length + 1)).flatMap _) t = _
  rw [frange_succ]
  have e0 : rdo (compTo D E D.ds.length ++ compAt D E D.ds.length) (t ++ []) = _ := run_append _ _ t [] (by rw [hb0, ht])
  rw [List.append_nil] at e0
  show rdo (compTo D E D.ds.length ++ compAt D E D.ds.length) t = _
  have ih := comp_rdo wD hE ht D.ds.length (Nat.le_refl _)
  rw [List.take_of_length_le (by omega)] at ih
  rw [e0, ih]
  have hr : app D t = appTo D t D.ds.length ++ gapc D t D.ds.length := appTo_succ _ _ _
  unfold gapc at hr
  have hln := appTo_ln D t D.ds.length
  have hpa := ptr_all wD
  rw [show ptr D (D.ds.length + 1) = ptr D D.ds.length + (D.ps.getD D.ds.length []).length + (if D.ds[D.ds.length]? = some false then 1 else 0) from rfl, List.getElem?_eq_none (Nat.le_refl _), if_neg (by intro z; cases z)] at hpa
  have hu : ∀ i, i < (D.ps.getD D.ds.length []).length → (app D t).getD (ptr D D.ds.length + i) 0 = (D.ps.getD D.ds.length []).getD i 0 := fun i hi => by
    rw [hr, ← hln]
    exact getD_mid hi
  unfold compAt compCs
  rw [cc_rdo hu (by omega) _ _ _ (Nat.le_refl _), List.getElem?_eq_none (Nat.le_refl _)]
  show _ ++ (E.ps.getD _ [] ++ []) = appTo E (app D t) (E.ds.length + 1)
  have hpe : ptr D D.ds.length + (D.ps.getD D.ds.length []).length = E.ds.length := by omega
  rw [hpe, appTo_succ]
  unfold gapc
  rw [List.getElem?_eq_none (Nat.le_refl _)]
  rfl
/-! ## Counts -/
section
variable {μ : List Int → Nat} (hμ : ∀ a b, μ (a ++ b) = μ a + μ b)
include hμ
/-- what rows make and what they drop, and what they took and what they put -/
theorem mu_rows : ∀ (rs : List Row) (t : List Int), t.length = before rs → μ (rdo rs t) + μ (rdr rs t) = μ t + μ (rputs rs)
  | [], t, h => by
    have e : t = [] := List.length_eq_zero_iff.mp h
    subst e
    rfl
  | .put cs :: rs, t, h => by
    have h2 : t.length = before rs := by rw [h, before_cons]; exact Nat.zero_add _
    have ih := mu_rows rs t h2
    show μ (cs ++ rdo rs t) + μ (rdr rs t) = μ t + μ (cs ++ rputs rs)
    rw [hμ, hμ]
    omega
  | .keep n :: rs, t, h => by
    have h1 : t.length = n + before rs := h
    have ih := mu_rows rs (t.drop n) (by rw [List.length_drop]; omega)
    have e : μ t = μ (t.take n) + μ (t.drop n) := by rw [← hμ, List.take_append_drop]
    show μ (t.take n ++ rdo rs (t.drop n)) + μ (rdr rs (t.drop n)) = μ t + μ (rputs rs)
    rw [hμ]
    omega
  | .drop n :: rs, t, h => by
    have h1 : t.length = n + before rs := h
    have ih := mu_rows rs (t.drop n) (by rw [List.length_drop]; omega)
    have e : μ t = μ (t.take n) + μ (t.drop n) := by rw [← hμ, List.take_append_drop]
    show μ (rdo rs (t.drop n)) + μ (t.take n ++ rdr rs (t.drop n)) = μ t + μ (rputs rs)
    rw [hμ]
    omega
theorem mu_app {rs : List Row} {t : List Int} (h : t.length = (gaps rs).ds.length) : μ (app (gaps rs) t) + μ (dr (gaps rs) t) = μ t + μ (gaps rs).ps.flatten := by
  have h2 : t.length = before rs := by rw [h, ds_gaps]
  rw [app_gaps _ _ h2, dr_gaps _ _ h2, puts_gaps]
  exact mu_rows hμ rs t h2
end
/-- every delta in its own form is the gaps of rows -/
theorem mu_app_wf {μ : List Int → Nat} (hμ : ∀ a b, μ (a ++ b) = μ a + μ b) {D : Dl} {t : List Int} (w : D.Wf) (h : t.length = D.ds.length) : μ (app D t) + μ (dr D t) = μ t + μ D.ps.flatten := by
  have e := gaps_norm w
  rw [← e] at h ⊢
  exact mu_app hμ h
theorem app_ln {D : Dl} (w : D.Wf) (t : List Int) : (app D t).length = aft D := by
  unfold app
  rw [appTo_ln, ptr_all w]
theorem cn (x : Int) : ∀ a b : List Int, (a ++ b).count x = a.count x + b.count x := fun a b => List.count_append
theorem aft_over_eq {D E : Dl} (f : Bool) (wD : D.Wf) (wE : E.Wf) (hl : E.ds.length = D.ds.length) : aft (gaps (over D E f)) = aft (gaps (over E D (!f))) := by
  have h := tp1 f wD wE hl (t := List.replicate D.ds.length 0) (by rw [List.length_replicate])
  have := congrArg List.length h
  rw [app_ln (wf_gaps _), app_ln (wf_gaps _)] at this
  exact this
theorem chain_mv : ∀ (bs : List Dl) (f : Dl) (n : Nat), f.Wf → f.ds.length = n → Chain n bs → Chain (aft f) (mvB f bs)
  | [], _, _, _, _, _ => trivial
  | b :: r, f, n, wf, hf, ⟨h1, h2, h3, h4⟩ => by
    have hl : f.ds.length = b.ds.length := hf.trans h1.symm
    have ih := chain_mv r (gaps (over f b false)) (aft b) (wf_gaps _) (over_ds h2 hl.symm) h4
    refine ⟨over_ds wf hl, wf_gaps _, by rw [over_ps h2]; exact h3, ?_⟩
    have e : aft (gaps (over b f true)) = aft (gaps (over f b false)) := aft_over_eq true h2 wf hl
    rw [e]
    exact ih
theorem mvB_len : ∀ (bs : List Dl) (f : Dl), (mvB f bs).length = bs.length
  | [], _ => rfl
  | _ :: r, f => congrArg (· + 1) (mvB_len r _)
/-- back again: as long as before -/
theorem inv_ds {D : Dl} (w : D.Wf) (t : List Int) : (gaps (inv D t)).ds.length = aft D := by
  rw [ds_gaps]
  show before (invTo D t (D.ds.length + 1)) = _
  rw [inv_before, ptr_all w]
def Row.mk_ : Row → Nat
  | .keep n => n
  | .drop _ => 0
  | .put cs => cs.length
theorem rdo_len : ∀ (rs : List Row) (t : List Int), t.length = before rs → (rdo rs t).length = (rs.map Row.mk_).sum
  | [], t, _ => rfl
  | .put cs :: rs, t, h => by
    have h2 : t.length = before rs := by rw [h, before_cons]; exact Nat.zero_add _
    show (cs ++ rdo rs t).length = cs.length + (rs.map Row.mk_).sum
    rw [List.length_append, rdo_len rs t h2]
  | .keep n :: rs, t, h => by
    have h1 : t.length = n + before rs := h
    show (t.take n ++ rdo rs (t.drop n)).length = n + (rs.map Row.mk_).sum
    rw [List.length_append, rdo_len rs _ (by rw [List.length_drop]; omega), List.length_take]
    omega
  | .drop n :: rs, t, h => by
    have h1 : t.length = n + before rs := h
    show (rdo rs (t.drop n)).length = 0 + (rs.map Row.mk_).sum
    rw [rdo_len rs _ (by rw [List.length_drop]; omega), Nat.zero_add]
theorem inv_mk (D : Dl) (t : List Int) : ∀ k, ((invTo D t k).map Row.mk_).sum = min k D.ds.length
  | 0 => by simp [invTo]
  | k + 1 => by
    show (((List.range (k + 1)).flatMap _).map Row.mk_).sum = _
    rw [frange_succ, List.map_append, List.sum_append]
    show ((invTo D t k).map Row.mk_).sum + (0 + ((invTl (t.getD k 0) D.ds[k]?).map Row.mk_).sum) = _
    rw [inv_mk D t k]
    by_cases h : k < D.ds.length
    · rcases ds_lt h with e | e <;> rw [e]
      · show _ + (0 + 1) = _
        omega
      · show _ + (0 + 1) = _
        omega
    · rw [List.getElem?_eq_none (by omega)]
      show _ + (0 + 0) = _
      omega
theorem inv_aft {D : Dl} (w : D.Wf) (t : List Int) : aft (gaps (inv D t)) = D.ds.length := by
  have hb : (List.replicate (aft D) (0 : Int)).length = before (inv D t) := by
    rw [List.length_replicate]
    have := inv_ds w t
    rw [ds_gaps] at this
    exact this.symm
  rw [← app_ln (wf_gaps _) (List.replicate (aft D) 0), app_gaps _ _ hb, rdo_len _ _ hb]
  show ((invTo D t (D.ds.length + 1)).map Row.mk_).sum = _
  rw [inv_mk]
  omega
theorem inv_ps {D : Dl} {t : List Int} : (gaps (inv D t)).ps.flatten.length ≤ D.ds.length + 1 := by
  rw [puts_gaps]
  exact inv_rputs D t (D.ds.length + 1)
/-- the puts of a delta are in what it makes -/
theorem puts_in {D : Dl} {t : List Int} {x : Int} (w : D.Wf) (h : x ∈ D.ps.flatten) : x ∈ app D t := by
  obtain ⟨cs, hcs, hx⟩ := List.mem_flatten.mp h
  obtain ⟨g, hg⟩ := List.getElem?_of_mem hcs
  have hl := (List.getElem?_eq_some_iff.mp hg).1
  have wl := w.ln
  obtain ⟨r, hr⟩ := app_pre D t (show g + 1 ≤ D.ds.length + 1 by omega)
  show x ∈ appTo D t (D.ds.length + 1)
  rw [hr, appTo_succ]
  refine List.mem_append_left _ (List.mem_append_right _ ?_)
  unfold gapc
  refine List.mem_append_left _ ?_
  rw [List.getD_eq_getElem?_getD, hg]
  exact hx
theorem comp_bef {D E : Dl} : before (comp D E) = D.ds.length := by
  show before ((List.range (D.ds.length + 1)).flatMap _) = _
  rw [frange_succ, before_append]
  show before (compTo D E D.ds.length) + before (compAt D E D.ds.length) = _
  rw [compTo_bef _ (Nat.le_refl _)]
  unfold compAt compCs
  rw [before_append, ccTo_before, List.getElem?_eq_none (Nat.le_refl _)]
  rfl
theorem comp_ds {D E : Dl} : (gaps (comp D E)).ds.length = D.ds.length := by rw [ds_gaps, comp_bef]
def appO : Option Dl → List Int → List Int
  | none, t => t
  | some D, t => app D t
def drO : Option Dl → List Int → List Int
  | none, _ => []
  | some D, t => dr D t
def putsO : Option Dl → List Int
  | none => []
  | some D => D.ps.flatten
/-- a program's own parts fit -/
structure StrOk (P : PS) : Prop where
  s : ∀ s, P.sent = some s → s.ds.length = P.base.length ∧ s.Wf
  w : ∀ w, P.wait = some w → w.ds.length = P.mid ∧ w.Wf
  o : P.own = appO P.wait (appO P.sent P.base)
  ch : Chain P.own.length P.backs.reverse
theorem StrOk.mid_ {P : PS} (h : StrOk P) : (appO P.sent P.base).length = P.mid := by
  unfold PS.mid
  cases e : P.sent with
  | none => rfl
  | some s => exact app_ln (h.s s e).2 _
theorem StrOk.end__ {P : PS} (h : StrOk P) : P.own.length = P.end_ := by
  rw [h.o]
  unfold PS.end_
  cases e : P.wait with
  | none => exact h.mid_
  | some w => exact app_ln (h.w w e).2 _
theorem past_wf {D : Dl} {o : Option Dl} (w : D.Wf) : (past D o).Wf := by
  cases o with
  | none => exact w
  | some s => exact wf_gaps _
theorem beyond_app {D : Dl} {o : Option Dl} {t : List Int} (wD : D.Wf) (ho : ∀ s, o = some s → s.ds.length = t.length ∧ s.Wf) (ht : t.length = D.ds.length) : appO (beyond D o) (app D t) = app (past D o) (appO o t) := by
  cases o with
  | none => rfl
  | some s =>
    obtain ⟨h1, h2⟩ := ho s rfl
    exact tp1 false h2 wD (ht.symm.trans h1.symm) h1.symm
theorem past_ds {D : Dl} {o : Option Dl} {t : List Int} (wD : D.Wf) (ho : ∀ s, o = some s → s.ds.length = t.length ∧ s.Wf) (ht : t.length = D.ds.length) : (past D o).ds.length = (appO o t).length := by
  cases o with
  | none => exact ht.symm
  | some s =>
    obtain ⟨h1, h2⟩ := ho s rfl
    show (gaps (over D s true)).ds.length = (app s t).length
    rw [app_ln h2, over_ds h2 (h1.trans ht)]
theorem past_ps {D : Dl} {o : Option Dl} (w : D.Wf) : (past D o).ps.flatten = D.ps.flatten := by
  cases o with
  | none => rfl
  | some s => exact over_ps w
theorem StrOk.take {P : PS} {D : Dl} (h : StrOk P) (wD : D.Wf) (hD : D.ds.length = P.base.length) : StrOk (psTake P D) := by
  have hX : (past D P.sent).ds.length = (appO P.sent P.base).length := past_ds wD h.s hD.symm
  have hwX : ∀ w, P.wait = some w → w.ds.length = (appO P.sent P.base).length ∧ w.Wf := fun w hw => by
    rw [h.mid_]
    exact h.w w hw
  have wF := past_wf (o := P.sent) wD
  have wG := past_wf (o := P.wait) wF
  have hG : (past (past D P.sent) P.wait).ds.length = P.own.length := by
    rw [h.o]
    exact past_ds wF hwX hX.symm
  have eX : appO (beyond D P.sent) (app D P.base) = app (past D P.sent) (appO P.sent P.base) := beyond_app wD h.s hD.symm
  have hmid : (psTake P D).mid = aft (past D P.sent) := by
    show (match beyond D P.sent with | none => (app D P.base).length | some s => aft s) = _
    cases e : P.sent with
    | none => exact app_ln wD _
    | some s =>
      obtain ⟨h1, h2⟩ := h.s s e
      exact aft_over_eq false h2 wD (hD.trans h1.symm)
  refine ⟨fun s hs => ?_, fun w hw => ?_, ?_, ?_⟩
  · have hs : beyond D P.sent = some s := hs
    cases e : P.sent with
    | none => rw [e] at hs; cases hs
    | some s0 =>
      rw [e] at hs
      obtain ⟨h1, h2⟩ := h.s s0 e
      obtain rfl : gaps (over s0 D false) = s := Option.some.inj hs
      refine ⟨?_, wf_gaps _⟩
      show _ = (app D P.base).length
      rw [app_ln wD, over_ds wD (hD.trans h1.symm)]
  · have hw : beyond (past D P.sent) P.wait = some w := hw
    cases e : P.wait with
    | none => rw [e] at hw; cases hw
    | some w0 =>
      rw [e] at hw
      obtain ⟨h1, h2⟩ := hwX w0 e
      obtain rfl : gaps (over w0 (past D P.sent) false) = w := Option.some.inj hw
      refine ⟨?_, wf_gaps _⟩
      rw [hmid, over_ds wF (hX.trans h1.symm)]
  · show app (past (past D P.sent) P.wait) P.own = appO (beyond (past D P.sent) P.wait) (appO (beyond D P.sent) (app D P.base))
    rw [eX, beyond_app wF hwX hX.symm, ← h.o]
  · show Chain (app (past (past D P.sent) P.wait) P.own).length (mvB (past (past D P.sent) P.wait) P.backs.reverse).reverse.reverse
    rw [List.reverse_reverse, app_ln wG]
    exact chain_mv _ _ _ wG hG h.ch
theorem StrOk.change {P : PS} {D : Dl} (h : StrOk P) (wD : D.Wf) (hD : D.ds.length = P.own.length) (hs : P.own.length ≤ 199) : StrOk (psChange P D) := by
  refine ⟨h.s, fun w hw => ?_, ?_, ?_⟩
  · have hw : some (match P.wait with | none => D | some W => gaps (comp W D)) = some w := hw
    obtain rfl := Option.some.inj hw
    show _ = P.mid ∧ _
    cases e : P.wait with
    | none =>
      have he := h.end__
      unfold PS.end_ at he
      rw [e] at he
      exact ⟨hD.trans he, wD⟩
    | some W => exact ⟨comp_ds.trans (h.w W e).1, wf_gaps _⟩
  · show app D P.own = app (match P.wait with | none => D | some W => gaps (comp W D)) (appO P.sent P.base)
    have ho := h.o
    cases e : P.wait with
    | none =>
      rw [e] at ho
      rw [ho]
      rfl
    | some W =>
      rw [e] at ho
      obtain ⟨h1, h2⟩ := h.w W e
      have hx : (appO P.sent P.base).length = W.ds.length := h.mid_.trans h1.symm
      have hE : D.ds.length = aft W := by rw [hD, ho]; exact app_ln h2 _
      rw [ho]
      exact (comp_app h2 hE hx).symm
  · show Chain (app D P.own).length (P.backs ++ [gaps (inv D P.own)]).reverse
    rw [List.reverse_append, app_ln wD]
    refine ⟨inv_ds wD _, wf_gaps _, ?_, ?_⟩
    · have := inv_ps (D := D) (t := P.own)
      omega
    · rw [inv_aft wD, hD]
      exact h.ch
theorem StrOk.send {P : PS} (h : StrOk P) (hs : P.sent = none) : StrOk (psSend P) := by
  have hm : P.mid = P.base.length := by unfold PS.mid; rw [hs]
  refine ⟨fun s e => ?_, fun w e => (by cases e), ?_, h.ch⟩
  · have e : P.wait = some s := e
    obtain ⟨h1, h2⟩ := h.w s e
    exact ⟨h1.trans hm, h2⟩
  · have ho := h.o
    rw [hs] at ho
    exact ho
theorem StrOk.ack {P : PS} {v : Nat} {s : Dl} (h : StrOk P) (hs : P.sent = some s) : StrOk { P with base := app s P.base, sent := none, ver := v } := by
  have hm : P.mid = aft s := by unfold PS.mid; rw [hs]
  refine ⟨fun s e => (by cases e), fun w e => ?_, ?_, h.ch⟩
  · obtain ⟨h1, h2⟩ := h.w w e
    refine ⟨?_, h2⟩
    show _ = (app s P.base).length
    rw [app_ln (h.s s hs).2, h1, hm]
  · have ho := h.o
    rw [hs] at ho
    exact ho
end Tc
/-! # The plain law, part 7: the company's word -/
namespace Tc
def fo (ds : List Dl) (D : Dl) : Dl := ds.foldl (fun d l => gaps (over d l false)) D
theorem fo_append (a b : List Dl) (D : Dl) : fo (a ++ b) D = fo b (fo a D) := List.foldl_append
def SV.tx (S : SV) (j : Nat) : List Int := S.texts.getD j []
/-- where what one has sent stands -/
inductive Link (S : SV) (i : Nat) (x : PgS) : Prop where
  | idle (h1 : x.P.sent = none) (h2 : x.up = []) (h3 : ∀ j, x.P.ver ≤ j → S.auth[j]? ≠ some i) : Link S i x
  | fly (v : Nat) (D : Dl) (h1 : x.up = [(v, D, S.tx v)]) (h2 : v ≤ x.P.ver) (h3 : x.P.sent = some (fo ((S.deltas.drop v).take (x.P.ver - v)) D)) (h4 : ∀ j, x.P.ver ≤ j → S.auth[j]? ≠ some i) (h5 : DOk D) (h6 : D.ds.length = (S.tx v).length) : Link S i x
  | done (j : Nat) (s : Dl) (h1 : x.up = []) (h2 : x.P.sent = some s) (h3 : x.P.ver ≤ j) (h4 : S.auth[j]? = some i) (h5 : ∀ j', x.P.ver ≤ j' → j' ≠ j → S.auth[j']? ≠ some i) (h6 : S.deltas[j]? = some (fo ((S.deltas.drop x.P.ver).take (j - x.P.ver)) s)) : Link S i x
/-- what the server sent of version j to program i -/
def dnOf (S : SV) (i j : Nat) : Nat × List Int × Dn := (j + 1, S.tx j, if S.auth[j]? = some i then .ack else .chg (S.deltas.getD j ⟨[[]], []⟩))
structure PgInv (S : SV) (i : Nat) (x : PgS) : Prop where
  str : StrOk x.P
  v : x.P.ver ≤ S.deltas.length
  b : x.P.base = S.tx x.P.ver
  d : x.dn = (List.range' x.P.ver (S.deltas.length - x.P.ver)).map (dnOf S i)
  l : Link S i x
structure SvInv (S : SV) : Prop where
  n : S.texts.length = S.deltas.length + 1
  a : S.auth.length = S.deltas.length
  d : ∀ j D, S.deltas[j]? = some D → D.ds.length = (S.tx j).length ∧ D.Wf
  t : ∀ j D, S.deltas[j]? = some D → S.tx (j + 1) = app D (S.tx j)
theorem drop_take_succ {ds : List Dl} {a m : Nat} {l : Dl} (h : ds[a + m]? = some l) : (ds.drop a).take (m + 1) = (ds.drop a).take m ++ [l] := take_snoc (by rw [List.getElem?_drop]; exact h)
theorem fo_snoc {ds : List Dl} {a m : Nat} {l D : Dl} (h : ds[a + m]? = some l) : fo ((ds.drop a).take (m + 1)) D = gaps (over (fo ((ds.drop a).take m) D) l false) := by
  rw [drop_take_succ h, fo_append]
  rfl
/-- a change of another comes down -/
theorem Link.chg {S : SV} {i : Nat} {x : PgS} {D : Dl} {dn : List (Nat × List Int × Dn)} {Q : PS} (h : Link S i x) (hd : S.deltas[x.P.ver]? = some D) (ha : S.auth[x.P.ver]? ≠ some i) (hv : Q.ver = x.P.ver + 1) (hs : Q.sent = beyond D x.P.sent) : Link S i { x with P := Q, dn := dn } := by
  cases h with
  | idle h1 h2 h3 => exact .idle (by show Q.sent = none; rw [hs, h1]; rfl) h2 fun j hj => h3 j (by have hj : Q.ver ≤ j := hj; omega)
  | fly v E h1 h2 h3 h4 h5 h6 =>
    refine .fly v E h1 (by show v ≤ Q.ver; omega) ?_ (fun j hj => h4 j (by have hj : Q.ver ≤ j := hj; omega)) h5 h6
    show Q.sent = some (fo ((S.deltas.drop v).take (Q.ver - v)) E)
    rw [hs, h3, hv, show x.P.ver + 1 - v = (x.P.ver - v) + 1 by omega, fo_snoc (l := D) (by rw [show v + (x.P.ver - v) = x.P.ver by omega]; exact hd)]
    rfl
  | done j s h1 h2 h3 h4 h5 h6 =>
    have hj : x.P.ver ≠ j := fun z => ha (by rw [z]; exact h4)
    refine .done j (gaps (over s D false)) h1 (by show Q.sent = _; rw [hs, h2]; rfl) (by show Q.ver ≤ j; omega) h4 (fun j' hj' => h5 j' (by have hj' : Q.ver ≤ j' := hj'; omega)) ?_
    show S.deltas[j]? = some (fo ((S.deltas.drop Q.ver).take (j - Q.ver)) (gaps (over s D false)))
    rw [h6, hv]
    obtain ⟨hl, he⟩ := List.getElem?_eq_some_iff.mp hd
    rw [List.drop_eq_getElem_cons hl, he, show j - x.P.ver = (j - (x.P.ver + 1)) + 1 by omega]
    rfl
/-- one's own delta comes down -/
theorem Link.own {S : SV} {i : Nat} {x : PgS} (h : Link S i x) (ha : S.auth[x.P.ver]? = some i) : ∃ s, x.P.sent = some s ∧ S.deltas[x.P.ver]? = some s ∧ x.up = [] ∧ ∀ (Q : PS) dn, Q.ver = x.P.ver + 1 → Q.sent = none → Link S i { x with P := Q, dn := dn } := by
  cases h with
  | idle h1 h2 h3 => exact absurd ha (h3 _ (Nat.le_refl _))
  | fly v E h1 h2 h3 h4 h5 h6 => exact absurd ha (h4 _ (Nat.le_refl _))
  | done j s h1 h2 h3 h4 h5 h6 =>
    have hj : x.P.ver = j := Decidable.byContradiction fun z => h5 _ (Nat.le_refl _) z ha
    subst hj
    rw [Nat.sub_self] at h6
    exact ⟨s, h2, h6, h1, fun Q dn hv hs => .idle hs h1 fun j hj => h5 j (by have hj : Q.ver ≤ j := hj; omega) (by have hj : Q.ver ≤ j := hj; omega)⟩
/-- one sends -/
theorem Link.send {S : SV} {i : Nat} {x : PgS} {W : Dl} (h : Link S i x) (hs : x.P.sent = none) (hw : x.P.wait = some W) (hb : x.P.base = S.tx x.P.ver) (hW : DOk W) (hl : W.ds.length = x.P.base.length) : Link S i { x with P := psSend x.P, up := x.up ++ [(x.P.ver, W, x.P.base)] } := by
  cases h with
  | idle h1 h2 h3 =>
    refine .fly x.P.ver W (by show x.up ++ _ = _; rw [h2, hb]; rfl) (Nat.le_refl _) ?_ h3 hW (by rw [hl, hb])
    show x.P.wait = some (fo ((S.deltas.drop x.P.ver).take (x.P.ver - x.P.ver)) W)
    rw [Nat.sub_self, hw]
    rfl
  | fly v E h1 h2 h3 h4 h5 h6 => rw [hs] at h3; cases h3
  | done j s h1 h2 h3 h4 h5 h6 => rw [hs] at h2; cases h2
theorem svSub_tx {S : SV} {v i j : Nat} {D : Dl} (hn : S.texts.length = S.deltas.length + 1) (hj : j ≤ S.deltas.length) : (svSub S v D i).tx j = S.tx j := by
  show (S.texts ++ [_]).getD j [] = S.texts.getD j []
  rw [List.getD_eq_getElem?_getD, List.getElem?_append_left (by omega), ← List.getD_eq_getElem?_getD]
theorem svSub_auth {S : SV} {v i j q : Nat} {D : Dl} (ha : S.auth.length = S.deltas.length) : (svSub S v D i).auth[j]? = some q → (j < S.deltas.length ∧ S.auth[j]? = some q) ∨ (j = S.deltas.length ∧ q = i) := by
  intro h
  have h : (S.auth ++ [i])[j]? = some q := h
  by_cases hj : j < S.deltas.length
  · rw [List.getElem?_append_left (by omega)] at h
    exact .inl ⟨hj, h⟩
  · rw [List.getElem?_append_right (by omega)] at h
    have h1 := (List.getElem?_eq_some_iff.mp h).1
    simp at h1
    have : j - S.auth.length = 0 := by omega
    rw [this] at h
    exact .inr ⟨by omega, (Option.some.inj h).symm⟩
theorem drop_take_all {ds : List Dl} {r : Dl} {v : Nat} (h : v ≤ ds.length) : ((ds ++ [r]).drop v).take (ds.length - v) = ds.drop v := by
  rw [List.drop_append_of_le_length h, List.take_append_of_le_length (by rw [List.length_drop]; exact Nat.le_refl _), List.take_of_length_le (by rw [List.length_drop]; exact Nat.le_refl _)]
theorem drop_take_less {ds : List Dl} {r : Dl} {v m : Nat} (h : v + m ≤ ds.length) : ((ds ++ [r]).drop v).take m = (ds.drop v).take m := by
  rw [List.drop_append_of_le_length (by omega), List.take_append_of_le_length (by rw [List.length_drop]; omega)]
theorem Link.subOwn {S : SV} {i v : Nat} {x : PgS} {D : Dl} {t : List Int} {rest : List (Nat × Dl × List Int)} {dn : List (Nat × List Int × Dn)} (h : Link S i x) (hn : S.texts.length = S.deltas.length + 1) (ha : S.auth.length = S.deltas.length) (hv : x.P.ver ≤ S.deltas.length) (hu : x.up = (v, D, t) :: rest) :
    rest = [] ∧ t = S.tx v ∧ v ≤ x.P.ver ∧ DOk D ∧ D.ds.length = (S.tx v).length ∧ x.P.sent = some (fo ((S.deltas.drop v).take (x.P.ver - v)) D) ∧ Link (svSub S v D i) i { x with up := rest, dn := dn } := by
  cases h with
  | idle h1 h2 h3 => rw [h2] at hu; cases hu
  | done j s h1 h2 h3 h4 h5 h6 => rw [h1] at hu; cases hu
  | fly v0 E h1 h2 h3 h4 h5 h6 =>
    rw [h1] at hu
    injection hu with hu1 hu2
    injection hu1 with e1 e2
    injection e2 with e2 e3
    subst e1 e2 e3 hu2
    refine ⟨rfl, rfl, h2, h5, h6, h3, ?_⟩
    have hR : svRe S v0 E = fo (S.deltas.drop x.P.ver) (fo ((S.deltas.drop v0).take (x.P.ver - v0)) E) := by
      rw [← fo_append]
      show fo (S.deltas.drop v0) E = _
      have : S.deltas.drop x.P.ver = (S.deltas.drop v0).drop (x.P.ver - v0) := by rw [List.drop_drop, show v0 + (x.P.ver - v0) = x.P.ver by omega]
      rw [this, List.take_append_drop]
    refine .done S.deltas.length _ rfl h3 hv ?_ (fun j' hj' hne hc => ?_) ?_
    · show (S.auth ++ [i])[S.deltas.length]? = some i
      rw [← ha, List.getElem?_append_right (Nat.le_refl _), Nat.sub_self]
      rfl
    · rcases svSub_auth ha hc with ⟨a1, a2⟩ | ⟨a1, a2⟩
      · exact h4 j' hj' a2
      · exact hne a1
    · show (S.deltas ++ [svRe S v0 E])[S.deltas.length]? = some (fo (((S.deltas ++ [svRe S v0 E]).drop x.P.ver).take (S.deltas.length - x.P.ver)) _)
      rw [List.getElem?_append_right (Nat.le_refl _), Nat.sub_self, drop_take_all hv, ← hR]
      rfl
theorem Link.subOther {S : SV} {q i v : Nat} {x : PgS} {D : Dl} {dn : List (Nat × List Int × Dn)} (h : Link S q x) (hn : S.texts.length = S.deltas.length + 1) (ha : S.auth.length = S.deltas.length) (hv : x.P.ver ≤ S.deltas.length) (hq : q ≠ i) : Link (svSub S v D i) q { x with dn := dn } := by
  have hau : ∀ j, (svSub S v D i).auth[j]? = some q → S.auth[j]? = some q := fun j hc => (svSub_auth ha hc).elim (fun z => z.2) fun z => absurd z.2 hq
  cases h with
  | idle h1 h2 h3 => exact .idle h1 h2 fun j hj hc => h3 j hj (hau j hc)
  | fly v0 E h1 h2 h3 h4 h5 h6 =>
    refine .fly v0 E ?_ h2 ?_ (fun j hj hc => h4 j hj (hau j hc)) h5 ?_
    · rw [svSub_tx hn (by omega)]
      exact h1
    · show x.P.sent = some (fo (((S.deltas ++ [_]).drop v0).take (x.P.ver - v0)) E)
      rw [drop_take_less (by omega)]
      exact h3
    · rw [svSub_tx hn (by omega)]
      exact h6
  | done j s h1 h2 h3 h4 h5 h6 =>
    have hj := (List.getElem?_eq_some_iff.mp h4).1
    refine .done j s h1 h2 h3 ?_ (fun j' hj' hne hc => h5 j' hj' hne (hau j' hc)) ?_
    · show (S.auth ++ [i])[j]? = some q
      rw [List.getElem?_append_left hj]
      exact h4
    · show (S.deltas ++ [_])[j]? = some (fo (((S.deltas ++ [_]).drop x.P.ver).take (j - x.P.ver)) s)
      rw [List.getElem?_append_left (by omega), drop_take_less (by omega)]
      exact h6
end Tc
/-! # The plain law, part 8: what is kept of the characters -/
namespace Tc
structure Gh where
  rows : List (Option Nat × List Int)
  gone : List (Nat × List Int)
  ne : Nat
def Own (G : Gh) (o : Option Nat) (x : Int) : Prop := ∃ row, (o, row) ∈ G.rows ∧ x ∈ row
def Gh.seen (G : Gh) : List Int := G.rows.flatMap (·.2)
def Gone (G : Gh) (x : Int) : Prop := ∃ i row, (i, row) ∈ G.gone ∧ x ∈ row
def flying (y : PgS) : List Int := if y.up.isEmpty then [] else putsO y.P.sent
def pend (x : Int) (y : PgS) : Nat := (flying y).count x + (putsO y.P.wait).count x
def cP (C : CoS) (x : Int) : Nat := (C.S.tx 0).count x + (C.S.deltas.map fun D => D.ps.flatten.count x).sum + (C.ps.map (pend x)).sum
def b2n (b : Bool) : Nat := if b then 1 else 0
def cE (y : PgS) : Nat := b2n (!y.up.isEmpty) + b2n y.P.wait.isSome
structure GInv (C : CoS) (G : Gh) : Prop where
  nd : G.seen.Nodup
  ok : ∀ x ∈ G.seen, ChOk x
  sl : G.seen.length ≤ 8 + 3 * G.ne
  n10 : G.ne ≤ 10
  c1 : ∀ x, cP C x ≤ 1
  o0 : ∀ x ∈ C.S.tx 0, Own G none x
  od : ∀ (j : Nat) (D : Dl) (x : Int), C.S.deltas[j]? = some D → x ∈ D.ps.flatten → ∃ a, C.S.auth[j]? = some a ∧ Own G (some a) x
  op : ∀ (i : Nat) (y : PgS) (x : Int), C.ps[i]? = some y → x ∈ flying y ++ putsO y.P.wait → Own G (some i) x
  gs : ∀ x, Gone G x → x ∈ G.seen
  gn : ∀ (i : Nat) (y : PgS) (row : List Int) (x : Int), C.ps[i]? = some y → (i, row) ∈ G.gone → x ∈ row → x ∉ y.P.own ∧ (Own G (some i) x ∨ x ∈ C.S.tx 0 ∨ ∃ (j : Nat) (D : Dl), j < y.P.ver ∧ C.S.deltas[j]? = some D ∧ x ∈ D.ps.flatten)
  dw : ∀ (i : Nat) (y : PgS) (x : Int), C.ps[i]? = some y → x ∈ drO y.P.wait (appO y.P.sent y.P.base) → Gone G x
  df : ∀ (i : Nat) (y : PgS) (m : Nat × Dl × List Int) (x : Int), C.ps[i]? = some y → m ∈ y.up → x ∈ dr m.2.1 m.2.2 → Gone G x
  al : ∀ x ∈ G.seen, ¬ Gone G x → x ∈ C.S.tx C.S.deltas.length ∨ ∃ (i : Nat) (y : PgS), C.ps[i]? = some y ∧ x ∈ flying y ++ putsO y.P.wait
  or_ : ∀ (o : Option Nat) (row : List Int) (i : Nat) (y : PgS), (o, row) ∈ G.rows → C.ps[i]? = some y → (o = some i ∨ o = none) → (y.P.own.filter fun x => decide (x ∈ row)).Sublist row
  e : C.S.deltas.length + (C.ps.map cE).sum ≤ G.ne
  bk : ∀ y ∈ C.ps, y.P.backs.length ≤ G.ne
/-! ## Sums -/
theorem sum_set {α : Type} {f : α → Nat} : ∀ {l : List α} {i : Nat} {x x' : α}, l[i]? = some x → ((l.set i x').map f).sum + f x = (l.map f).sum + f x'
  | [], _, _, _, h => by simp at h
  | a :: r, 0, x, x', h => by
    obtain rfl : a = x := by simpa using h
    show f x' + (r.map f).sum + f a = f a + (r.map f).sum + f x'
    omega
  | a :: r, i + 1, x, x', h => by
    have := sum_set (f := f) (x' := x') (l := r) (i := i) (by simpa using h)
    show f a + ((r.set i x').map f).sum + f x = f a + (r.map f).sum + f x'
    omega
theorem sum_get {α : Type} {f : α → Nat} : ∀ {l : List α} {i : Nat} {x : α}, l[i]? = some x → f x ≤ (l.map f).sum
  | [], _, _, h => by simp at h
  | a :: r, 0, x, h => by
    obtain rfl : a = x := by simpa using h
    show f a ≤ f a + _
    omega
  | a :: r, i + 1, x, h => by
    have := sum_get (f := f) (l := r) (i := i) (by simpa using h)
    show f x ≤ f a + (r.map f).sum
    omega
theorem sum_take_get {α : Type} {f : α → Nat} {l : List α} {v j : Nat} {x : α} (hj : v ≤ j) (h : l[j]? = some x) : ((l.take v).map f).sum + f x ≤ (l.map f).sum := by
  have e : (l.map f).sum = ((l.take v).map f).sum + ((l.drop v).map f).sum := by rw [← List.sum_append, ← List.map_append, List.take_append_drop]
  have h2 : (l.drop v)[j - v]? = some x := by rw [List.getElem?_drop, show v + (j - v) = j by omega]; exact h
  have := sum_get (f := f) h2
  omega
theorem sum_take {α : Type} {f : α → Nat} {l : List α} {v : Nat} : ((l.take v).map f).sum ≤ (l.map f).sum := by
  have e : (l.map f).sum = ((l.take v).map f).sum + ((l.drop v).map f).sum := by rw [← List.sum_append, ← List.map_append, List.take_append_drop]
  omega
def dcnt (x : Int) (D : Dl) : Nat := D.ps.flatten.count x
/-- a text of the server has what was there first and what was put since -/
theorem tx_count {S : SV} (h : SvInv S) (x : Int) : ∀ j, j ≤ S.deltas.length → (S.tx j).count x ≤ (S.tx 0).count x + ((S.deltas.take j).map (dcnt x)).sum
  | 0, _ => by simp
  | j + 1, hj => by
    have ih := tx_count h x j (by omega)
    have hd : S.deltas[j]? = some (S.deltas[j]'(by omega)) := List.getElem?_eq_getElem (by omega)
    generalize S.deltas[j]'(by omega) = D at hd
    obtain ⟨h1, h3⟩ := h.d j D hd
    have e := mu_app_wf (μ := List.count x) (cn x) h3 (t := S.tx j) h1.symm
    rw [h.t j D hd, take_snoc hd, List.map_append, List.sum_append]
    show (app D (S.tx j)).count x ≤ _ + (_ + (dcnt x D + 0))
    unfold dcnt at *
    omega
theorem appO_count {o : Option Dl} {t : List Int} (x : Int) (h : ∀ s, o = some s → s.ds.length = t.length ∧ s.Wf) : (appO o t).count x + (drO o t).count x = t.count x + (putsO o).count x := by
  cases o with
  | none => rfl
  | some s =>
    obtain ⟨h1, h2⟩ := h s rfl
    exact mu_app_wf (μ := List.count x) (cn x) h2 h1.symm
theorem PgInv.wX {S : SV} {i : Nat} {y : PgS} (h : PgInv S i y) : ∀ w, y.P.wait = some w → w.ds.length = (appO y.P.sent y.P.base).length ∧ w.Wf := fun w hw => by
  rw [h.str.mid_]
  exact h.str.w w hw
theorem pend_nil {x : Int} {y : PgS} (h : y.up = []) : pend x y = (putsO y.P.wait).count x := by
  unfold pend flying
  rw [h]
  simp
theorem pend_fly {x : Int} {y : PgS} (h : y.up ≠ []) : pend x y = (putsO y.P.sent).count x + (putsO y.P.wait).count x := by
  unfold pend flying
  cases e : y.up with
  | nil => exact absurd e h
  | cons _ _ => rfl
/-- puts keep to themselves over a fold -/
theorem fo_ps : ∀ (ds : List Dl) {D : Dl}, D.Wf → (fo ds D).ps.flatten = D.ps.flatten ∧ (fo ds D).Wf
  | [], _, w => ⟨rfl, w⟩
  | l :: ds, D, w => by
    have ih := fo_ps ds (wf_gaps (over D l false))
    exact ⟨ih.1.trans (over_ps w), ih.2⟩
/-- what a program knows of a character is at most what there is -/
theorem own_count {C : CoS} {i : Nat} {y : PgS} (hS : SvInv C.S) (hp : PgInv C.S i y) (hi : C.ps[i]? = some y) (x : Int) : (y.P.base.count x + (putsO y.P.sent).count x) + (putsO y.P.wait).count x ≤ cP C x := by
  have h1 := tx_count hS x y.P.ver hp.v
  rw [← hp.b] at h1
  have h2 := sum_get (f := pend x) hi
  show _ ≤ (C.S.tx 0).count x + (C.S.deltas.map (dcnt x)).sum + (C.ps.map (pend x)).sum
  have h3 := sum_take (f := dcnt x) (l := C.S.deltas) (v := y.P.ver)
  generalize (C.ps.map (pend x)).sum = Z at *
  cases hp.l with
  | idle e1 e2 e3 =>
    rw [pend_nil e2] at h2
    rw [e1]
    show _ + 0 + _ ≤ _
    omega
  | fly v D e1 e2 e3 e4 e5 e6 =>
    rw [pend_fly (by rw [e1]; intro z; cases z)] at h2
    omega
  | done j s e1 e2 e3 e4 e5 e6 =>
    rw [pend_nil e1] at h2
    have h4 := sum_take_get (f := dcnt x) e3 e6
    have h5 : dcnt x (fo ((C.S.deltas.drop y.P.ver).take (j - y.P.ver)) s) = (putsO y.P.sent).count x := by
      rw [e2]
      unfold dcnt
      rw [(fo_ps _ (hp.str.s s e2).2).1]
      rfl
    rw [h5] at h4
    omega
theorem own_le {C : CoS} {i : Nat} {y : PgS} (hS : SvInv C.S) (hp : PgInv C.S i y) (hi : C.ps[i]? = some y) (x : Int) : y.P.own.count x ≤ cP C x := by
  have h := own_count hS hp hi x
  have h1 := appO_count (o := y.P.sent) (t := y.P.base) x hp.str.s
  have h2 := appO_count (o := y.P.wait) (t := appO y.P.sent y.P.base) x hp.wX
  rw [← hp.str.o] at h2
  omega
theorem tx_le {C : CoS} (hS : SvInv C.S) (x : Int) {j : Nat} (hj : j ≤ C.S.deltas.length) : (C.S.tx j).count x ≤ cP C x := by
  have h1 := tx_count hS x j hj
  have h3 := sum_take (f := dcnt x) (l := C.S.deltas) (v := j)
  show _ ≤ (C.S.tx 0).count x + (C.S.deltas.map (dcnt x)).sum + (C.ps.map (pend x)).sum
  omega
theorem nodup_of_count {l : List Int} (h : ∀ x, l.count x ≤ 1) : l.Nodup := List.nodup_iff_count.mpr h
theorem len_sub : ∀ {l m : List Int}, l.Nodup → (∀ x ∈ l, x ∈ m) → l.length ≤ m.length
  | [], _, _, _ => Nat.zero_le _
  | a :: l, m, h, hs => by
    rw [List.nodup_cons] at h
    have ha : a ∈ m := hs a (List.mem_cons_self ..)
    have ih := len_sub (l := l) (m := m.erase a) h.2 fun x hx => by
      have hx2 := hs x (List.mem_cons_of_mem _ hx)
      exact (List.mem_erase_of_ne (fun z => h.1 (by rw [← z]; exact hx))).mpr hx2
    rw [List.length_erase_of_mem ha] at ih
    have : 0 < m.length := List.length_pos_of_mem ha
    show l.length + 1 ≤ _
    omega
theorem sum_pos {α : Type} {f : α → Nat} : ∀ {l : List α}, 0 < (l.map f).sum → ∃ (i : Nat) (x : α), l[i]? = some x ∧ 0 < f x
  | [], h => by simp at h
  | a :: r, h => by
    by_cases ha : 0 < f a
    · exact ⟨0, a, rfl, ha⟩
    · obtain ⟨i, x, h1, h2⟩ := sum_pos (f := f) (l := r) (by have h : 0 < f a + (r.map f).sum := h; omega)
      exact ⟨i + 1, x, by simpa using h1, h2⟩
theorem own_seen {G : Gh} {o : Option Nat} {x : Int} (h : Own G o x) : x ∈ G.seen := by
  obtain ⟨row, h1, h2⟩ := h
  exact List.mem_flatMap.mpr ⟨_, h1, h2⟩
theorem GInv.of_pos {C : CoS} {G : Gh} (h : GInv C G) {x : Int} (hx : 0 < cP C x) : x ∈ G.seen := by
  unfold cP at hx
  by_cases h1 : 0 < (C.S.tx 0).count x
  · exact own_seen (h.o0 x (List.count_pos_iff.mp h1))
  · by_cases h2 : 0 < (C.S.deltas.map fun D => D.ps.flatten.count x).sum
    · obtain ⟨j, D, hj, hD⟩ := sum_pos h2
      obtain ⟨a, _, ho⟩ := h.od j D x hj (List.count_pos_iff.mp hD)
      exact own_seen ho
    · obtain ⟨i, y, hy, hp⟩ := sum_pos (f := pend x) (l := C.ps) (by omega)
      refine own_seen (h.op i y x hy ?_)
      rw [← List.count_pos_iff, List.count_append]
      exact hp
/-- every list of characters that counts within what there is, is short -/
theorem GInv.tok {C : CoS} {G : Gh} (h : GInv C G) {t : List Int} (ht : ∀ x, t.count x ≤ cP C x) : t.Nodup ∧ (∀ x ∈ t, x ∈ G.seen) ∧ t.length ≤ 38 ∧ TOk t := by
  have hn : t.Nodup := nodup_of_count fun x => Nat.le_trans (ht x) (h.c1 x)
  have hs : ∀ x ∈ t, x ∈ G.seen := fun x hx => h.of_pos (Nat.lt_of_lt_of_le (List.count_pos_iff.mpr hx) (ht x))
  have hl := len_sub hn hs
  have := h.sl
  have := h.n10
  exact ⟨hn, hs, by omega, by omega, fun x hx => h.ok x (hs x hx)⟩
end Tc
/-! # The plain law, part 9: what a delta does to counts, to order; one edit -/
namespace Tc
theorem rdo_flt {p : Int → Bool} : ∀ (rs : List Row) (t : List Int), (∀ x ∈ rputs rs, p x = false) → ((rdo rs t).filter p).Sublist (t.filter p)
  | [], t, _ => List.nil_sublist _
  | .put cs :: rs, t, h => by
    have h1 : cs.filter p = [] := List.filter_eq_nil_iff.mpr fun x hx => by
      rw [h x (List.mem_append_left _ hx)]
      exact Bool.false_ne_true
    show ((cs ++ rdo rs t).filter p).Sublist _
    rw [List.filter_append, h1, List.nil_append]
    exact rdo_flt rs t fun x hx => h x (List.mem_append_right _ hx)
  | .keep n :: rs, t, h => by
    have ih := rdo_flt rs (t.drop n) h
    show ((t.take n ++ rdo rs (t.drop n)).filter p).Sublist _
    have e : t.filter p = (t.take n).filter p ++ (t.drop n).filter p := by rw [← List.filter_append, List.take_append_drop]
    rw [List.filter_append, e]
    exact (List.Sublist.refl _).append ih
  | .drop n :: rs, t, h => by
    have ih := rdo_flt rs (t.drop n) h
    show ((rdo rs (t.drop n)).filter p).Sublist _
    exact ih.trans ((List.drop_sublist n t).filter p)
/-- what was there keeps its order -/
theorem app_flt {D : Dl} {t : List Int} {p : Int → Bool} (w : D.Wf) (h : t.length = D.ds.length) (hp : ∀ x ∈ D.ps.flatten, p x = false) : ((app D t).filter p).Sublist (t.filter p) := by
  have e := gaps_norm w
  rw [← e] at h hp ⊢
  rw [app_gaps _ _ (by rw [h, ds_gaps])]
  rw [puts_gaps] at hp
  exact rdo_flt _ _ hp
theorem app_cnt {D : Dl} {t : List Int} (w : D.Wf) (h : t.length = D.ds.length) (x : Int) : (app D t).count x + (dr D t).count x = t.count x + D.ps.flatten.count x := mu_app_wf (μ := List.count x) (cn x) w h
theorem app_mem {D : Dl} {t : List Int} (w : D.Wf) (h : t.length = D.ds.length) {x : Int} (hx : x ∈ app D t) : x ∈ t ∨ x ∈ D.ps.flatten := by
  have e := app_cnt w h x
  have h1 := List.count_pos_iff.mpr hx
  by_cases h2 : x ∈ t
  · exact .inl h2
  · rw [List.count_eq_zero_of_not_mem h2] at e
    exact .inr (List.count_pos_iff.mp (by omega))
theorem dr_out {D : Dl} {t : List Int} (w : D.Wf) (h : t.length = D.ds.length) {x : Int} (h1 : t.count x + D.ps.flatten.count x ≤ 1) (hx : x ∈ dr D t) : x ∉ app D t := by
  have e := app_cnt w h x
  have h2 := List.count_pos_iff.mpr hx
  exact fun z => by
    have h3 := List.count_pos_iff.mpr z
    omega
theorem app_stays {D : Dl} {t : List Int} (w : D.Wf) (h : t.length = D.ds.length) {x : Int} (hx : x ∈ t) (hd : x ∉ dr D t) : x ∈ app D t := by
  have e := app_cnt w h x
  have h2 := List.count_pos_iff.mpr hx
  rw [List.count_eq_zero_of_not_mem hd] at e
  exact List.count_pos_iff.mp (by omega)
/-! ## One edit -/
def edD (b l n : Nat) (cs : List Int) : Dl := gaps (ed b l n cs)
theorem edD_wf (b l n : Nat) (cs : List Int) : (edD b l n cs).Wf := wf_gaps _
theorem edD_ds (b l n : Nat) (cs : List Int) : (edD b l n cs).ds.length = n := by
  unfold edD
  rw [ds_gaps]
  show before (edTo b l n cs (n + 1)) = n
  rw [ed_before]
  omega
theorem edD_ps {b l n : Nat} {cs : List Int} (h : b ≤ n) : (edD b l n cs).ps.flatten = cs := by
  unfold edD
  rw [puts_gaps]
  show rputs (edTo b l n cs (n + 1)) = cs
  rw [ed_rputs, if_pos (by omega)]
theorem rowOf_do (b : Bool) (x : Int) : rdo [rowOf b 1] [x] = if b then [] else [x] := by cases b <;> rfl
theorem rowOf_dr (b : Bool) (x : Int) : rdr [rowOf b 1] [x] = if b then [x] else [] := by cases b <;> rfl
theorem getD_take_succ {t : List Int} {k : Nat} (h : k < t.length) : t.take (k + 1) = t.take k ++ [t.getD k 0] := by
  refine take_snoc ?_
  rw [List.getD_eq_getElem?_getD, List.getElem?_eq_getElem h]
  rfl
theorem drop_take_snoc {t : List Int} {k l : Nat} (h : k < t.length) (hl : l ≤ k) : (t.take (k + 1)).drop l = (t.take k).drop l ++ [t.getD k 0] := by
  rw [getD_take_succ h, List.drop_append_of_le_length (by rw [List.length_take]; omega)]
theorem take_drop_nil {t : List Int} {k l : Nat} (hl : k ≤ l) : (t.take k).drop l = [] := List.drop_eq_nil_of_le (by rw [List.length_take]; omega)
theorem edTo_do {b l n : Nat} {cs t : List Int} (hbl : b ≤ l) (hn : t.length = n) : ∀ k, k ≤ n → rdo (edTo b l n cs k) (t.take k) = t.take (min k b) ++ ((if b < k then cs else []) ++ (t.take k).drop l) ∧ rdr (edTo b l n cs k) (t.take k) = (t.take (min k l)).drop b
  | 0, _ => by
    rw [if_neg (by omega)]
    refine ⟨by simp; rfl, by simp; rfl⟩
  | k + 1, h => by
    obtain ⟨i1, i2⟩ := edTo_do (b := b) (l := l) (cs := cs) hbl hn k (by omega)
    have hb : (t.take k).length = before (edTo b l n cs k) := by rw [ed_before, List.length_take, hn]
    have hk : k < t.length := by omega
    have e1 : edTo b l n cs (k + 1) = edTo b l n cs k ++ edAt b l n cs k := frange_succ _ _
    have e2 : edAt b l n cs k = [.put (if k = b then cs else []), rowOf (decide (b ≤ k ∧ k < l)) 1] := by
      unfold edAt
      rw [if_pos (show k < n by omega)]
    have e3 : rdo (edAt b l n cs k) [t.getD k 0] = (if k = b then cs else []) ++ (if b ≤ k ∧ k < l then [] else [t.getD k 0]) := by
      rw [e2]
      show (if k = b then cs else []) ++ rdo [rowOf _ 1] [t.getD k 0] = _
      rw [rowOf_do]
      simp only [decide_eq_true_eq]
    have e4 : rdr (edAt b l n cs k) [t.getD k 0] = (if b ≤ k ∧ k < l then [t.getD k 0] else []) := by
      rw [e2]
      show rdr [rowOf _ 1] [t.getD k 0] = _
      rw [rowOf_dr]
      simp only [decide_eq_true_eq]
    rw [e1, getD_take_succ hk, run_append _ _ _ _ hb, rdr_append _ _ _ _ hb, i1, i2, e3, e4, ← getD_take_succ hk]
    constructor
    · rcases Nat.lt_trichotomy k b with hkb | hkb | hkb
      · rw [if_neg (by omega), if_neg (by omega), if_neg (by omega), if_neg (by omega), take_drop_nil (by omega), take_drop_nil (by omega), Nat.min_eq_left (by omega), Nat.min_eq_left (by omega), getD_take_succ hk]
        simp
      · subst hkb
        rw [if_neg (show ¬ k < k by omega), if_pos rfl, if_pos (show k < k + 1 by omega), take_drop_nil hbl, Nat.min_self, Nat.min_eq_right (by omega)]
        by_cases hl : k < l
        · rw [if_pos ⟨Nat.le_refl _, hl⟩, take_drop_nil (by omega)]
          simp
        · rw [if_neg fun z => hl z.2, drop_take_snoc hk (by omega), take_drop_nil hbl]
          simp
      · rw [if_pos hkb, if_neg (show ¬ k = b by omega), if_pos (show b < k + 1 by omega), Nat.min_eq_right (by omega), Nat.min_eq_right (by omega)]
        by_cases hl : k < l
        · rw [if_pos ⟨by omega, hl⟩, take_drop_nil (by omega), take_drop_nil (by omega)]
          simp
        · rw [if_neg fun z => hl z.2, drop_take_snoc hk (by omega)]
          simp
    · by_cases hl : k < l
      · rw [Nat.min_eq_left (by omega), Nat.min_eq_left (by omega)]
        by_cases hkb : b ≤ k
        · rw [if_pos ⟨hkb, hl⟩, drop_take_snoc hk hkb]
        · rw [if_neg fun z => hkb z.1, take_drop_nil (by omega), take_drop_nil (by omega)]
          rfl
      · rw [if_neg fun z => hl z.2, Nat.min_eq_right (by omega), Nat.min_eq_right (by omega), List.append_nil]
theorem edD_app {b l n : Nat} {cs t : List Int} (hbl : b ≤ l) (hl : l ≤ n) (hn : t.length = n) : app (edD b l n cs) t = t.take b ++ (cs ++ t.drop l) ∧ dr (edD b l n cs) t = (t.take l).drop b := by
  have hb : t.length = before (ed b l n cs) := by
    show _ = before (edTo b l n cs (n + 1))
    rw [ed_before]
    omega
  unfold edD
  rw [app_gaps _ _ hb, dr_gaps _ _ hb]
  obtain ⟨i1, i2⟩ := edTo_do (b := b) (l := l) (cs := cs) hbl hn n (Nat.le_refl _)
  have ht : t.take n = t := List.take_of_length_le (by omega)
  rw [ht] at i1 i2
  have hb2 : t.length = before (edTo b l n cs n) := by rw [ed_before]; omega
  have e1 : ed b l n cs = edTo b l n cs n ++ edAt b l n cs n := frange_succ _ _
  have e2 : edAt b l n cs n = [.put (if n = b then cs else [])] := by
    unfold edAt
    rw [if_neg (show ¬ n < n by omega)]
  have r1 := run_append (edTo b l n cs n) (edAt b l n cs n) t [] hb2
  have r2 := rdr_append (edTo b l n cs n) (edAt b l n cs n) t [] hb2
  rw [List.append_nil] at r1 r2
  rw [e1, r1, r2, i1, i2, e2, Nat.min_eq_right (by omega), Nat.min_eq_right (by omega)]
  constructor
  · show _ ++ ((if n = b then cs else []) ++ []) = _
    by_cases h : b = n
    · subst h
      rw [if_neg (by omega), if_pos rfl, List.drop_eq_nil_of_le (by omega)]
      simp
    · rw [if_pos (by omega), if_neg fun z => h z.symm]
      simp
  · show _ ++ [] = _
    rw [List.append_nil]
/-! ## One delta behind another: counts -/
theorem sub_cnt {a b : List Int} (h : a.Sublist b) (x : Int) : a.count x ≤ b.count x := h.count_le x
theorem comp_cnt {W D : Dl} (wW : W.Wf) (x : Int) : (gaps (comp W D)).ps.flatten.count x ≤ W.ps.flatten.count x + D.ps.flatten.count x := by
  have h := mu_comp (μ := List.count x) (cn x) (D := W) (E := D) wW
  rw [puts_gaps]
  have h2 : (D.ps.take (ptr W (W.ds.length + 1) + 1)).flatten.count x ≤ D.ps.flatten.count x := by
    have e : D.ps.flatten = (D.ps.take (ptr W (W.ds.length + 1) + 1)).flatten ++ (D.ps.drop (ptr W (W.ds.length + 1) + 1)).flatten := by rw [← List.flatten_append, List.take_append_drop]
    rw [e, List.count_append]
    omega
  omega
end Tc
/-! # The plain law, part 10: the company's order is kept by its steps -/
namespace Tc
structure CInv (C : CoS) : Prop where
  s : SvInv C.S
  p : ∀ (i : Nat) (y : PgS), C.ps[i]? = some y → PgInv C.S i y
  nn : (C.ps.map (·.nm)).Nodup
theorem Link.cong {S : SV} {i : Nat} {x y : PgS} (h : Link S i x) (e1 : y.up = x.up) (e2 : y.P.ver = x.P.ver) (e3 : y.P.sent = x.P.sent) : Link S i y := by
  cases h with
  | idle h1 h2 h3 => exact .idle (e3.trans h1) (e1.trans h2) (by rw [e2]; exact h3)
  | fly v D h1 h2 h3 h4 h5 h6 => exact .fly v D (e1.trans h1) (by rw [e2]; exact h2) (by rw [e2, e3]; exact h3) (by rw [e2]; exact h4) h5 h6
  | done j s h1 h2 h3 h4 h5 h6 => exact .done j s (e1.trans h1) (e3.trans h2) (by rw [e2]; exact h3) h4 (by rw [e2]; exact h5) (by rw [e2]; exact h6)
theorem CInv.set {C : CoS} {i : Nat} {x x' : PgS} (h : CInv C) (hi : C.ps[i]? = some x) (hn : x'.nm = x.nm) (hp : PgInv C.S i x') : CInv (C.setP i x') := by
  refine ⟨h.s, fun j y hy => ?_, ?_⟩
  · have hy : (C.ps.set i x')[j]? = some y := hy
    by_cases hj : i = j
    · subst hj
      rw [List.getElem?_set_self (List.getElem?_eq_some_iff.mp hi).1] at hy
      rw [← Option.some.inj hy]
      exact hp
    · rw [List.getElem?_set_ne hj] at hy
      exact h.p j y hy
  · show ((C.ps.set i x').map (·.nm)).Nodup
    have e : (C.ps.set i x').map (·.nm) = C.ps.map (·.nm) := by
      rw [List.map_set, hn]
      obtain ⟨h1, h2⟩ := List.getElem?_eq_some_iff.mp hi
      have h3 : (C.ps.map (·.nm))[i]'(by simpa using h1) = x.nm := by rw [List.getElem_map, h2]
      rw [← h3, List.set_getElem_self]
    rw [e]
    exact h.nn
theorem PgInv.change {S : SV} {i : Nat} {x : PgS} {D : Dl} (h : PgInv S i x) (wD : D.Wf) (hD : D.ds.length = x.P.own.length) (hl : x.P.own.length ≤ 199) : PgInv S i { x with P := psChange x.P D } :=
  ⟨h.str.change wD hD hl, h.v, h.b, h.d, h.l.cong rfl rfl rfl⟩
theorem PgInv.send {S : SV} {i : Nat} {x : PgS} {W : Dl} (h : PgInv S i x) (hs : x.P.sent = none) (hw : x.P.wait = some W) (hW : DOk W) : PgInv S i { x with P := psSend x.P, up := x.up ++ [(x.P.ver, W, x.P.base)] } := by
  have hm : x.P.mid = x.P.base.length := by unfold PS.mid; rw [hs]
  exact ⟨h.str.send hs, h.v, h.b, h.d, h.l.send hs hw h.b hW ((h.str.w W hw).1.trans hm)⟩
/-- what comes down next -/
theorem PgInv.next {S : SV} {i : Nat} {x : PgS} {m : Nat × List Int × Dn} {rest : List (Nat × List Int × Dn)} (h : PgInv S i x) (hd : x.dn = m :: rest) : x.P.ver < S.deltas.length ∧ m = dnOf S i x.P.ver ∧ rest = (List.range' (x.P.ver + 1) (S.deltas.length - (x.P.ver + 1))).map (dnOf S i) := by
  have e := h.d
  rw [hd] at e
  have hlt : x.P.ver < S.deltas.length := Decidable.byContradiction fun z => by
    rw [show S.deltas.length - x.P.ver = 0 by omega] at e
    cases e
  rw [show S.deltas.length - x.P.ver = (S.deltas.length - (x.P.ver + 1)) + 1 by omega] at e
  have e : m :: rest = dnOf S i x.P.ver :: (List.range' (x.P.ver + 1) (S.deltas.length - (x.P.ver + 1))).map (dnOf S i) := e
  injection e with e1 e2
  exact ⟨hlt, e1, e2⟩
theorem StrOk.verX {P : PS} {v : Nat} (h : StrOk P) : StrOk { P with ver := v } := ⟨h.s, h.w, h.o, h.ch⟩
theorem getD_some {ds : List Dl} {j : Nat} (h : j < ds.length) (d : Dl) : ds[j]? = some (ds.getD j d) := by
  rw [List.getD_eq_getElem?_getD, List.getElem?_eq_getElem h]
  rfl
/-- a message comes down -/
theorem PgInv.recv {S : SV} {i : Nat} {x : PgS} {m : Nat × List Int × Dn} {rest : List (Nat × List Int × Dn)} (hS : SvInv S) (h : PgInv S i x) (hd : x.dn = m :: rest) :
    m.1 = x.P.ver + 1 ∧ m.2.1 = x.P.base ∧ PgInv S i { x with P := psRecv x.P m.2.2, dn := rest } ∧
    ((∃ s, m.2.2 = .ack ∧ x.P.sent = some s ∧ x.up = [] ∧ S.auth[x.P.ver]? = some i ∧ S.deltas[x.P.ver]? = some s) ∨ (∃ D, m.2.2 = .chg D ∧ S.deltas[x.P.ver]? = some D ∧ S.auth[x.P.ver]? ≠ some i ∧ D.ds.length = x.P.base.length ∧ D.Wf)) := by
  obtain ⟨hlt, rfl, er⟩ := h.next hd
  refine ⟨rfl, h.b.symm, ?_⟩
  have hD := getD_some hlt ⟨[[]], []⟩
  obtain ⟨d1, d2⟩ := hS.d _ _ hD
  have d3 := hS.t _ _ hD
  have hb := h.b
  by_cases ha : S.auth[x.P.ver]? = some i
  · obtain ⟨s, s1, s2, s3, s4⟩ := h.l.own ha
    have e : (dnOf S i x.P.ver).2.2 = .ack := by unfold dnOf; rw [if_pos ha]
    have eP : psRecv x.P (dnOf S i x.P.ver).2.2 = { x.P with base := app s x.P.base, sent := none, ver := x.P.ver + 1 } := by
      rw [e]
      show { x.P with base := (match x.P.sent with | some s => app s x.P.base | none => x.P.base), sent := none, ver := x.P.ver + 1 } = _
      rw [s1]
    rw [eP]
    refine ⟨⟨h.str.ack s1, by show x.P.ver + 1 ≤ _; omega, ?_, er, s4 _ _ rfl rfl⟩, .inl ⟨s, e, s1, s3, ha, s2⟩⟩
    show app s x.P.base = S.tx (x.P.ver + 1)
    rw [hS.t _ _ s2, hb]
  · have e : (dnOf S i x.P.ver).2.2 = .chg (S.deltas.getD x.P.ver ⟨[[]], []⟩) := by unfold dnOf; rw [if_neg ha]
    rw [e]
    generalize S.deltas.getD x.P.ver ⟨[[]], []⟩ = D at *
    have hl : D.ds.length = x.P.base.length := by rw [d1, hb]
    refine ⟨⟨(h.str.take d2 hl).verX, by show x.P.ver + 1 ≤ _; omega, ?_, er, h.l.chg hD ha rfl rfl⟩, .inr ⟨D, rfl, hD, ha, hl, d2⟩⟩
    show app D x.P.base = S.tx (x.P.ver + 1)
    rw [d3, hb]
/-! ## The server takes a delta -/
theorem fo_at {S : SV} (hS : SvInv S) {v : Nat} {D : Dl} (w : D.Wf) (hD : D.ds.length = (S.tx v).length) : ∀ m, v + m ≤ S.deltas.length → (fo ((S.deltas.drop v).take m) D).ds.length = (S.tx (v + m)).length ∧ (fo ((S.deltas.drop v).take m) D).Wf ∧ ∀ x, x ∈ dr (fo ((S.deltas.drop v).take m) D) (S.tx (v + m)) → x ∈ dr D (S.tx v)
  | 0, _ => ⟨hD, w, fun x h => h⟩
  | m + 1, h => by
    obtain ⟨i1, i2, i3⟩ := fo_at hS w hD m (by omega)
    have hl := getD_some (show v + m < S.deltas.length by omega) ⟨[[]], []⟩
    generalize S.deltas.getD (v + m) ⟨[[]], []⟩ = L at hl
    obtain ⟨d1, d2⟩ := hS.d _ _ hl
    have d3 := hS.t _ _ hl
    have hll : L.ds.length = (fo ((S.deltas.drop v).take m) D).ds.length := d1.trans i1.symm
    rw [fo_snoc hl, show v + (m + 1) = v + m + 1 by omega, d3]
    refine ⟨?_, wf_gaps _, fun x hx => i3 x ((over_dr false d2 hll).mem hx)⟩
    rw [over_ds d2 hll, app_ln d2]
theorem re_eq {S : SV} {v : Nat} {D : Dl} : svRe S v D = fo ((S.deltas.drop v).take (S.deltas.length - v)) D := by
  rw [List.take_of_length_le (by rw [List.length_drop]; exact Nat.le_refl _)]
  rfl
theorem re_at {S : SV} (hS : SvInv S) {v : Nat} {D : Dl} (hv : v ≤ S.deltas.length) (w : D.Wf) (hD : D.ds.length = (S.tx v).length) : (svRe S v D).ds.length = (S.tx S.deltas.length).length ∧ (svRe S v D).Wf ∧ (∀ x, x ∈ dr (svRe S v D) (S.tx S.deltas.length) → x ∈ dr D (S.tx v)) ∧ (svRe S v D).ps.flatten = D.ps.flatten := by
  have h := fo_at hS w hD (S.deltas.length - v) (by omega)
  rw [show v + (S.deltas.length - v) = S.deltas.length by omega, ← re_eq] at h
  exact ⟨h.1, h.2.1, h.2.2, by rw [re_eq]; exact (fo_ps _ w).1⟩
theorem sub_tx_new {S : SV} {v i : Nat} {D : Dl} (hn : S.texts.length = S.deltas.length + 1) : (svSub S v D i).tx (S.deltas.length + 1) = app (svRe S v D) (S.tx S.deltas.length) := by
  show (S.texts ++ [_]).getD _ [] = _
  rw [List.getD_eq_getElem?_getD, List.getElem?_append_right (by omega), show S.deltas.length + 1 - S.texts.length = 0 by omega]
  rfl
theorem sub_len {S : SV} {v i : Nat} {D : Dl} : (svSub S v D i).deltas.length = S.deltas.length + 1 := by
  show (S.deltas ++ [_]).length = _
  rw [List.length_append]
  rfl
theorem sub_at {S : SV} {v i j : Nat} {D : Dl} (h : j < S.deltas.length) : (svSub S v D i).deltas[j]? = S.deltas[j]? := by
  show (S.deltas ++ [_])[j]? = _
  exact List.getElem?_append_left h
theorem sub_new {S : SV} {v i : Nat} {D : Dl} : (svSub S v D i).deltas[S.deltas.length]? = some (svRe S v D) := by
  show (S.deltas ++ [_])[_]? = _
  rw [List.getElem?_append_right (Nat.le_refl _), Nat.sub_self]
  rfl
theorem sub_auth {S : SV} {v i j : Nat} {D : Dl} (h : j < S.auth.length) : (svSub S v D i).auth[j]? = S.auth[j]? := by
  show (S.auth ++ [_])[j]? = _
  exact List.getElem?_append_left h
theorem sub_auth_new {S : SV} {v i : Nat} {D : Dl} : (svSub S v D i).auth[S.auth.length]? = some i := by
  show (S.auth ++ [_])[_]? = _
  rw [List.getElem?_append_right (Nat.le_refl _), Nat.sub_self]
  rfl
theorem SvInv.sub {S : SV} (hS : SvInv S) {v i : Nat} {D : Dl} (hv : v ≤ S.deltas.length) (w : D.Wf) (hD : D.ds.length = (S.tx v).length) : SvInv (svSub S v D i) := by
  have hR := re_at hS hv w hD
  have hn := hS.n
  have ha := hS.a
  refine ⟨?_, ?_, fun j E hE => ?_, fun j E hE => ?_⟩
  · rw [sub_len]
    show (S.texts ++ [_]).length = _
    rw [List.length_append, hn]
    rfl
  · rw [sub_len]
    show (S.auth ++ [_]).length = _
    rw [List.length_append, ha]
    rfl
  · have hj := (List.getElem?_eq_some_iff.mp hE).1
    rw [sub_len] at hj
    by_cases h : j < S.deltas.length
    · rw [sub_at h] at hE
      rw [svSub_tx hn (by omega)]
      exact hS.d j E hE
    · obtain rfl : j = S.deltas.length := by omega
      rw [sub_new] at hE
      rw [← Option.some.inj hE, svSub_tx hn (by omega)]
      exact ⟨hR.1, hR.2.1⟩
  · have hj := (List.getElem?_eq_some_iff.mp hE).1
    rw [sub_len] at hj
    by_cases h : j < S.deltas.length
    · rw [sub_at h] at hE
      rw [svSub_tx hn (by omega), svSub_tx hn (by omega)]
      exact hS.t j E hE
    · obtain rfl : j = S.deltas.length := by omega
      rw [sub_new] at hE
      rw [← Option.some.inj hE, sub_tx_new hn, svSub_tx hn (Nat.le_refl _)]
theorem dnOf_sub {S : SV} (hS : SvInv S) {v i q j : Nat} {D : Dl} (h : j < S.deltas.length) : dnOf (svSub S v D i) q j = dnOf S q j := by
  unfold dnOf
  rw [svSub_tx hS.n (by omega), sub_auth (by rw [hS.a]; exact h), List.getD_eq_getElem?_getD, sub_at h, ← List.getD_eq_getElem?_getD]
theorem subm_at {C : CoS} {i v j : Nat} {x y : PgS} {D : Dl} {rest : List (Nat × Dl × List Int)} (hi : C.ps[i]? = some x) (h : (C.subm i x v D rest).ps[j]? = some y) :
    ∃ z, C.ps[j]? = some z ∧ ((i = j ∧ z = x ∧ y = hear x.nm (C.S.deltas.length + 1) (svLast C.S) (svRe C.S v D) { x with up := rest }) ∨ (i ≠ j ∧ y = hear x.nm (C.S.deltas.length + 1) (svLast C.S) (svRe C.S v D) z)) := by
  have h : ((C.ps.set i { x with up := rest }).map (hear x.nm (C.S.deltas.length + 1) (svLast C.S) (svRe C.S v D)))[j]? = some y := h
  rw [List.getElem?_map] at h
  by_cases hj : i = j
  · subst hj
    rw [List.getElem?_set_self (List.getElem?_eq_some_iff.mp hi).1] at h
    exact ⟨x, hi, .inl ⟨rfl, rfl, (Option.some.inj h).symm⟩⟩
  · rw [List.getElem?_set_ne hj] at h
    cases hz : C.ps[j]? with
    | none => rw [hz] at h; cases h
    | some z =>
      rw [hz] at h
      exact ⟨z, rfl, .inr ⟨hj, (Option.some.inj h).symm⟩⟩
theorem nm_inj {C : CoS} (h : (C.ps.map (·.nm)).Nodup) {i j : Nat} {x y : PgS} (hi : C.ps[i]? = some x) (hj : C.ps[j]? = some y) (e : x.nm = y.nm) : i = j := by
  refine Decidable.byContradiction fun n => ?_
  have h1 : i < (C.ps.map (·.nm)).length := by rw [List.length_map]; exact (List.getElem?_eq_some_iff.mp hi).1
  have h2 : j < (C.ps.map (·.nm)).length := by rw [List.length_map]; exact (List.getElem?_eq_some_iff.mp hj).1
  have e1 : (C.ps.map (·.nm))[i] = x.nm := by rw [List.getElem_map]; rw [(List.getElem?_eq_some_iff.mp hi).2]
  have e2 : (C.ps.map (·.nm))[j] = y.nm := by rw [List.getElem_map]; rw [(List.getElem?_eq_some_iff.mp hj).2]
  have hpw := List.pairwise_iff_getElem.mp h
  rcases Nat.lt_or_gt_of_ne n with z | z
  · exact hpw i j h1 h2 z (e1.trans (e.trans e2.symm))
  · exact hpw j i h2 h1 z (e2.trans (e.symm.trans e1.symm))
theorem CInv.subm {C : CoS} {i v : Nat} {x : PgS} {D : Dl} {t : List Int} {rest : List (Nat × Dl × List Int)} (h : CInv C) (hi : C.ps[i]? = some x) (hu : x.up = (v, D, t) :: rest) : CInv (C.subm i x v D rest) := by
  have hp := h.p i x hi
  obtain ⟨r1, r2, r3, r4, r5, r6, r7⟩ := hp.l.subOwn (dn := x.dn ++ [(C.S.deltas.length + 1, svLast C.S, Dn.ack)]) h.s.n h.s.a hp.v hu
  have hv : v ≤ C.S.deltas.length := Nat.le_trans r3 hp.v
  have dnx : ∀ (q : Nat) (y : PgS), PgInv C.S q y → (y.dn ++ [(C.S.deltas.length + 1, svLast C.S, if q = i then Dn.ack else .chg (svRe C.S v D))]) = (List.range' y.P.ver ((svSub C.S v D i).deltas.length - y.P.ver)).map (dnOf (svSub C.S v D i) q) := fun q y hy => by
    rw [sub_len, show C.S.deltas.length + 1 - y.P.ver = (C.S.deltas.length - y.P.ver) + 1 by have := hy.v; omega, List.range'_concat, List.map_append, hy.d]
    have hyv := hy.v
    refine congr (congrArg (· ++ ·) (List.map_congr_left fun j hj => ?_)) ?_
    · rw [List.mem_range'] at hj
      obtain ⟨k, hk, rfl⟩ := hj
      exact (dnOf_sub h.s (by omega)).symm
    · show [_] = [dnOf _ q (y.P.ver + 1 * (C.S.deltas.length - y.P.ver))]
      rw [show y.P.ver + 1 * (C.S.deltas.length - y.P.ver) = C.S.deltas.length by omega]
      unfold dnOf
      rw [svSub_tx h.s.n (Nat.le_refl _)]
      have ea : (svSub C.S v D i).auth[C.S.deltas.length]? = some i := by rw [← h.s.a]; exact sub_auth_new
      have ed : (svSub C.S v D i).deltas.getD C.S.deltas.length ⟨[[]], []⟩ = svRe C.S v D := by rw [List.getD_eq_getElem?_getD, sub_new]; rfl
      rw [ea, ed]
      by_cases hq : q = i
      · rw [if_pos hq, if_pos (by rw [hq])]
        rfl
      · rw [if_neg hq, if_neg fun z => hq (Option.some.inj z).symm]
        rfl
  refine ⟨h.s.sub hv r4.w r5, fun j y hy => ?_, ?_⟩
  · obtain ⟨z, hz, ⟨hij, rfl, rfl⟩ | ⟨hij, rfl⟩⟩ := subm_at hi hy
    · subst hij
      have dn' := dnx i z hp
      rw [if_pos rfl] at dn'
      have e : hear z.nm (C.S.deltas.length + 1) (svLast C.S) (svRe C.S v D) { z with up := rest } = { z with up := rest, dn := z.dn ++ [(C.S.deltas.length + 1, svLast C.S, Dn.ack)] } := by
        unfold hear
        rw [if_pos rfl]
      rw [e]
      refine ⟨hp.str, ?_, ?_, dn', r7⟩
      · show z.P.ver ≤ (svSub C.S v D i).deltas.length
        rw [sub_len]
        have := hp.v
        omega
      · show z.P.base = (svSub C.S v D i).tx z.P.ver
        rw [svSub_tx h.s.n hp.v]
        exact hp.b
    · have hq := h.p j z hz
      have dn' := dnx j z hq
      rw [if_neg fun e => hij e.symm] at dn'
      have e : hear x.nm (C.S.deltas.length + 1) (svLast C.S) (svRe C.S v D) z = { z with dn := z.dn ++ [(C.S.deltas.length + 1, svLast C.S, Dn.chg (svRe C.S v D))] } := by
        unfold hear
        rw [if_neg fun e => hij (nm_inj h.nn hi hz e.symm)]
      rw [e]
      refine ⟨hq.str, ?_, ?_, dn', hq.l.subOther h.s.n h.s.a hq.v fun e => hij e.symm⟩
      · show z.P.ver ≤ (svSub C.S v D i).deltas.length
        rw [sub_len]
        have := hq.v
        omega
      · show z.P.base = (svSub C.S v D i).tx z.P.ver
        rw [svSub_tx h.s.n hq.v]
        exact hq.b
  · show (((C.ps.set i { x with up := rest }).map (hear x.nm (C.S.deltas.length + 1) (svLast C.S) (svRe C.S v D))).map (·.nm)).Nodup
    rw [List.map_map]
    have e : (C.ps.set i { x with up := rest }).map ((·.nm) ∘ hear x.nm (C.S.deltas.length + 1) (svLast C.S) (svRe C.S v D)) = C.ps.map (·.nm) := by
      show (C.ps.set i { x with up := rest }).map (·.nm) = _
      rw [List.map_set]
      obtain ⟨h1, h2⟩ := List.getElem?_eq_some_iff.mp hi
      have h3 : (C.ps.map (·.nm))[i]'(by simpa using h1) = x.nm := by rw [List.getElem_map, h2]
      show (C.ps.map (·.nm)).set i x.nm = _
      rw [← h3, List.set_getElem_self]
    rw [e]
    exact h.nn
end Tc
/-! # The plain law, part 11: what is kept of the characters, step by step -/
namespace Tc
def pe (y : PgS) : List Int := flying y ++ putsO y.P.wait
theorem pend_eq (z : Int) (y : PgS) : pend z y = (pe y).count z := by
  unfold pend pe
  rw [List.count_append]
theorem uniq_rows : ∀ {rows : List (Option Nat × List Int)} {o o' : Option Nat} {r r' : List Int} {x : Int}, (rows.flatMap (·.2)).Nodup → (o, r) ∈ rows → (o', r') ∈ rows → x ∈ r → x ∈ r' → o = o'
  | [], _, _, _, _, _, _, h, _, _, _ => by cases h
  | q :: rows, o, o', r, r', x, hn, h1, h2, h3, h4 => by
    have hn : (q.2 ++ rows.flatMap (·.2)).Nodup := hn
    rw [List.nodup_append] at hn
    obtain ⟨n1, n2, n3⟩ := hn
    rcases List.mem_cons.mp h1 with e1 | e1
    · rcases List.mem_cons.mp h2 with e2 | e2
      · rw [← e1] at e2
        exact (congrArg Prod.fst e2).symm
      · exact absurd rfl (n3 x (by rw [← e1]; exact h3) x (List.mem_flatMap.mpr ⟨_, e2, h4⟩))
    · rcases List.mem_cons.mp h2 with e2 | e2
      · exact absurd rfl (n3 x (by rw [← e2]; exact h4) x (List.mem_flatMap.mpr ⟨_, e1, h3⟩))
      · exact uniq_rows n2 e1 e2 h3 h4
theorem own_uniq {G : Gh} (h : G.seen.Nodup) {o o' : Option Nat} {x : Int} (h1 : Own G o x) (h2 : Own G o' x) : o = o' := by
  obtain ⟨r, a1, a2⟩ := h1
  obtain ⟨r', b1, b2⟩ := h2
  exact uniq_rows h a1 b1 a2 b2
/-- what a program may know of a character -/
def Kn (C : CoS) (G : Gh) (i v : Nat) (x : Int) : Prop := Own G (some i) x ∨ x ∈ C.S.tx 0 ∨ ∃ (j : Nat) (D : Dl), j < v ∧ C.S.deltas[j]? = some D ∧ x ∈ D.ps.flatten
theorem appO_mem {o : Option Dl} {t : List Int} {x : Int} (h : ∀ s, o = some s → s.ds.length = t.length ∧ s.Wf) (hx : x ∈ appO o t) : x ∈ t ∨ x ∈ putsO o := by
  have e := appO_count x h
  have h1 := List.count_pos_iff.mpr hx
  by_cases h2 : x ∈ t
  · exact .inl h2
  · rw [List.count_eq_zero_of_not_mem h2] at e
    exact .inr (List.count_pos_iff.mp (by omega))
theorem mem_base {S : SV} (hS : SvInv S) {v : Nat} (hv : v ≤ S.deltas.length) {x : Int} (hx : x ∈ S.tx v) : x ∈ S.tx 0 ∨ ∃ (j : Nat) (D : Dl), j < v ∧ S.deltas[j]? = some D ∧ x ∈ D.ps.flatten := by
  have h1 := tx_count hS x v hv
  have h2 := List.count_pos_iff.mpr hx
  by_cases h3 : x ∈ S.tx 0
  · exact .inl h3
  · rw [List.count_eq_zero_of_not_mem h3] at h1
    obtain ⟨j, D, hj, hD⟩ := sum_pos (f := dcnt x) (l := S.deltas.take v) (by omega)
    have hl := (List.getElem?_eq_some_iff.mp hj).1
    rw [List.length_take] at hl
    rw [List.getElem?_take_of_lt (by omega)] at hj
    exact .inr ⟨j, D, by omega, hj, List.count_pos_iff.mp hD⟩
theorem GInv.kn {C : CoS} {G : Gh} (hC : CInv C) (h : GInv C G) {i : Nat} {y : PgS} (hi : C.ps[i]? = some y) {x : Int} (hx : x ∈ y.P.own) : Kn C G i y.P.ver x := by
  have hp := hC.p i y hi
  rw [hp.str.o] at hx
  rcases appO_mem hp.wX hx with hx | hx
  · rcases appO_mem hp.str.s hx with hx | hx
    · rw [hp.b] at hx
      exact .inr (mem_base hC.s hp.v hx)
    · cases hp.l with
      | idle e1 e2 e3 => rw [e1] at hx; cases hx
      | fly v D e1 e2 e3 e4 e5 e6 =>
        refine .inl (h.op i y x hi (List.mem_append_left _ ?_))
        unfold flying
        rw [e1]
        exact hx
      | done j s e1 e2 e3 e4 e5 e6 =>
        obtain ⟨a, a1, a2⟩ := h.od j _ x e6 (by
          rw [(fo_ps _ (hp.str.s s e2).2).1]
          rw [e2] at hx
          exact hx)
        rw [e4] at a1
        rw [← Option.some.inj a1] at a2
        exact .inl a2
  · exact .inl (h.op i y x hi (List.mem_append_right _ hx))
theorem own_more {G G' : Gh} (hr : ∀ q ∈ G.rows, q ∈ G'.rows) {o : Option Nat} {x : Int} (h : Own G o x) : Own G' o x := by
  obtain ⟨r, h1, h2⟩ := h
  exact ⟨r, hr _ h1, h2⟩
theorem cP_set {C : CoS} {i : Nat} {x x' : PgS} (hi : C.ps[i]? = some x) (z : Int) : cP (C.setP i x') z + (pe x).count z = cP C z + (pe x').count z := by
  have e := sum_set (f := pend z) (x' := x') hi
  unfold cP CoS.setP
  rw [← pend_eq, ← pend_eq]
  show (C.S.tx 0).count z + (C.S.deltas.map fun D => D.ps.flatten.count z).sum + ((C.ps.set i x').map (pend z)).sum + pend z x = _
  omega
/-- one program goes on -/
theorem GInv.set {C : CoS} {G G' : Gh} {i : Nat} {x x' : PgS} (h : GInv C G) (hi : C.ps[i]? = some x)
    (nd : G'.seen.Nodup) (ok : ∀ x ∈ G'.seen, ChOk x) (sl : G'.seen.length ≤ 8 + 3 * G'.ne) (n10 : G'.ne ≤ 10) (gs : ∀ x, Gone G' x → x ∈ G'.seen) (hr : ∀ q ∈ G.rows, q ∈ G'.rows) (hg : ∀ q ∈ G.gone, q ∈ G'.gone)
    (c1 : ∀ z, cP (C.setP i x') z ≤ 1) (op : ∀ z ∈ pe x', Own G' (some i) z)
    (gn : ∀ row z, (i, row) ∈ G'.gone → z ∈ row → z ∉ x'.P.own ∧ Kn C G' i x'.P.ver z) (gn2 : ∀ k row, (k, row) ∈ G'.gone → k ≠ i → (k, row) ∈ G.gone)
    (dw : ∀ z ∈ drO x'.P.wait (appO x'.P.sent x'.P.base), Gone G' z) (df : ∀ m ∈ x'.up, ∀ z ∈ dr m.2.1 m.2.2, Gone G' z)
    (al : ∀ z ∈ G'.seen, ¬ Gone G' z → z ∈ C.S.tx C.S.deltas.length ∨ z ∈ pe x' ∨ ∃ k y, k ≠ i ∧ C.ps[k]? = some y ∧ z ∈ pe y)
    (or1 : ∀ o row, (o, row) ∈ G'.rows → (o = some i ∨ o = none) → (x'.P.own.filter fun x => decide (x ∈ row)).Sublist row) (or2 : ∀ o row, (o, row) ∈ G'.rows → (o, row) ∈ G.rows ∨ o = some i)
    (e : C.S.deltas.length + (C.ps.map cE).sum + cE x' ≤ G'.ne + cE x) (bk : x'.P.backs.length ≤ G'.ne) (ne : G.ne ≤ G'.ne) : GInv (C.setP i x') G' := by
  have gone : ∀ z, Gone G z → Gone G' z := fun z ⟨k, row, h1, h2⟩ => ⟨k, row, hg _ h1, h2⟩
  have atc : ∀ {k : Nat} {y : PgS}, (C.setP i x').ps[k]? = some y → (k = i ∧ y = x') ∨ (k ≠ i ∧ C.ps[k]? = some y) := fun {k y} hy => by
    have hy : (C.ps.set i x')[k]? = some y := hy
    by_cases hk : i = k
    · subst hk
      rw [List.getElem?_set_self (List.getElem?_eq_some_iff.mp hi).1] at hy
      exact .inl ⟨rfl, (Option.some.inj hy).symm⟩
    · rw [List.getElem?_set_ne hk] at hy
      exact .inr ⟨fun z => hk z.symm, hy⟩
  refine ⟨nd, ok, sl, n10, c1, fun z hz => own_more hr (h.o0 z hz), fun j D z hj hz => ?_, fun k y z hy hz => ?_, gs, fun k y row z hy hrow hz => ?_, fun k y z hy hz => ?_, fun k y m z hy hm hz => ?_, fun z hz hn => ?_, fun o row k y ho hy hk => ?_, ?_, fun y hy => ?_⟩
  · obtain ⟨a, h1, h2⟩ := h.od j D z hj hz
    exact ⟨a, h1, own_more hr h2⟩
  · rcases atc hy with ⟨rfl, rfl⟩ | ⟨hk, hy⟩
    · exact op z hz
    · exact own_more hr (h.op k y z hy hz)
  · rcases atc hy with ⟨rfl, rfl⟩ | ⟨hk, hy⟩
    · exact gn row z hrow hz
    · obtain ⟨h1, h2⟩ := h.gn k y row z hy (gn2 k row hrow hk) hz
      exact ⟨h1, h2.imp (own_more hr) fun z => z⟩
  · rcases atc hy with ⟨rfl, rfl⟩ | ⟨hk, hy⟩
    · exact dw z hz
    · exact gone z (h.dw k y z hy hz)
  · rcases atc hy with ⟨rfl, rfl⟩ | ⟨hk, hy⟩
    · exact df m hm z hz
    · exact gone z (h.df k y m z hy hm hz)
  · rcases al z hz hn with h1 | h1 | ⟨k, y, hk, hy, h1⟩
    · exact .inl h1
    · exact .inr ⟨i, x', List.getElem?_set_self (List.getElem?_eq_some_iff.mp hi).1, h1⟩
    · refine .inr ⟨k, y, ?_, h1⟩
      show (C.ps.set i x')[k]? = some y
      rw [List.getElem?_set_ne fun z => hk z.symm]
      exact hy
  · rcases atc hy with ⟨rfl, rfl⟩ | ⟨hk2, hy⟩
    · exact or1 o row ho hk
    · rcases or2 o row ho with h1 | h1
      · exact h.or_ o row k y h1 hy hk
      · rcases hk with h2 | h2
        · rw [h1] at h2
          exact absurd (Option.some.inj h2).symm hk2
        · rw [h1] at h2; cases h2
  · have e2 := sum_set (f := cE) (x' := x') hi
    show C.S.deltas.length + ((C.ps.set i x').map cE).sum ≤ _
    omega
  · have hy : y ∈ C.ps.set i x' := hy
    rcases List.mem_or_eq_of_mem_set hy with z | z
    · exact Nat.le_trans (h.bk y z) ne
    · rw [z]
      exact bk
/-- one program goes on, nothing is put or dropped anew -/
theorem GInv.calm {C : CoS} {G : Gh} {i : Nat} {x x' : PgS} (h : GInv C G) (hi : C.ps[i]? = some x) (hp : ∀ z, (pe x').count z = (pe x).count z) (hv : x.P.ver ≤ x'.P.ver)
    (gn : ∀ row z, (i, row) ∈ G.gone → z ∈ row → z ∉ x'.P.own) (dw : ∀ z ∈ drO x'.P.wait (appO x'.P.sent x'.P.base), Gone G z) (df : ∀ m ∈ x'.up, ∀ z ∈ dr m.2.1 m.2.2, Gone G z)
    (or1 : ∀ o row, (o, row) ∈ G.rows → (o = some i ∨ o = none) → (x'.P.own.filter fun x => decide (x ∈ row)).Sublist row) (e : cE x' ≤ cE x) (bk : x'.P.backs.length = x.P.backs.length) : GInv (C.setP i x') G := by
  have hm : ∀ z, z ∈ pe x' ↔ z ∈ pe x := fun z => by
    rw [← List.count_pos_iff, ← List.count_pos_iff, hp]
  refine h.set hi h.nd h.ok h.sl h.n10 h.gs (fun _ q => q) (fun _ q => q) (fun z => ?_) (fun z hz => h.op i x z hi ((hm z).mp hz)) (fun row z hrow hz => ⟨gn row z hrow hz, ?_⟩) (fun k row q _ => q) dw df (fun z hz hn => ?_) or1 (fun o row q => .inl q) ?_ ?_ (Nat.le_refl _)
  · have := cP_set (x' := x') hi z
    rw [hp] at this
    have := h.c1 z
    omega
  · obtain ⟨_, h2⟩ := h.gn i x row z hi hrow hz
    exact h2.imp_right fun q => q.imp_right fun ⟨j, D, q1, q2⟩ => ⟨j, D, by omega, q2⟩
  · rcases h.al z hz hn with h1 | ⟨k, y, hy, h1⟩
    · exact .inl h1
    · by_cases hk : k = i
      · subst hk
        obtain rfl := Option.some.inj (hi.symm.trans hy)
        exact .inr (.inl ((hm z).mpr h1))
      · exact .inr (.inr ⟨k, y, hk, hy, h1⟩)
  · have := h.e
    omega
  · rw [bk]
    exact h.bk x (List.mem_of_getElem? hi)
theorem Link.idleUp {S : SV} {i : Nat} {x : PgS} (h : Link S i x) (hs : x.P.sent = none) : x.up = [] := by
  cases h with
  | idle h1 h2 h3 => exact h2
  | fly v D h1 h2 h3 h4 h5 h6 => rw [hs] at h3; cases h3
  | done j s h1 h2 h3 h4 h5 h6 => exact h1
theorem GInv.send {C : CoS} {G : Gh} {i : Nat} {x : PgS} {W : Dl} (hC : CInv C) (h : GInv C G) (hi : C.ps[i]? = some x) (hs : x.P.sent = none) (hw : x.P.wait = some W) : GInv (C.setP i { x with P := psSend x.P, up := x.up ++ [(x.P.ver, W, x.P.base)] }) G := by
  have hu := (hC.p i x hi).l.idleUp hs
  have hdw := h.dw i x
  rw [hs, hw] at hdw
  refine h.calm hi (fun z => ?_) (Nat.le_refl _) (fun row z hrow hz => (h.gn i x row z hi hrow hz).1) (fun z hz => (by cases hz)) (fun m hm z hz => ?_) (fun o row ho hk => h.or_ o row i x ho hi hk) ?_ rfl
  · unfold pe flying
    show ((if (x.up ++ [(x.P.ver, W, x.P.base)]).isEmpty then [] else putsO x.P.wait) ++ putsO none).count z = ((if x.up.isEmpty then [] else putsO x.P.sent) ++ putsO x.P.wait).count z
    rw [hu, hw]
    show (W.ps.flatten ++ []).count z = ([] ++ W.ps.flatten).count z
    rw [List.append_nil, List.nil_append]
  · have hm : m ∈ x.up ++ [(x.P.ver, W, x.P.base)] := hm
    rw [hu] at hm
    obtain rfl := List.mem_singleton.mp hm
    exact hdw z hi hz
  · unfold cE
    show b2n (!(x.up ++ [(x.P.ver, W, x.P.base)]).isEmpty) + b2n (none : Option Dl).isSome ≤ b2n (!x.up.isEmpty) + b2n x.P.wait.isSome
    rw [hu, hw]
    exact Nat.le_refl 1
theorem putsO_beyond {D : Dl} {o : Option Dl} (h : ∀ s, o = some s → s.Wf) : putsO (beyond D o) = putsO o := by
  cases o with
  | none => rfl
  | some s => exact over_ps (h s rfl)
theorem cE_eq {x y : PgS} (h1 : y.up.isEmpty = x.up.isEmpty) (h2 : y.P.wait.isSome = x.P.wait.isSome) : cE y = cE x := by
  unfold cE
  rw [h1, h2]
theorem GInv.recv {C : CoS} {G : Gh} {i : Nat} {x : PgS} {m : Nat × List Int × Dn} {rest : List (Nat × List Int × Dn)} (hC : CInv C) (h : GInv C G) (hi : C.ps[i]? = some x) (hd : x.dn = m :: rest) : GInv (C.setP i { x with P := psRecv x.P m.2.2, dn := rest }) G := by
  have hp := hC.p i x hi
  obtain ⟨_, _, hp', hcase⟩ := hp.recv hC.s hd
  rcases hcase with ⟨s, e, hs, hu, ha, hD⟩ | ⟨D, e, hD, ha, hl, wD⟩
  · have eP : psRecv x.P m.2.2 = { x.P with base := app s x.P.base, sent := none, ver := x.P.ver + 1 } := by
      rw [e]
      show { x.P with base := (match x.P.sent with | some s => app s x.P.base | none => x.P.base), sent := none, ver := x.P.ver + 1 } = _
      rw [hs]
    rw [eP]
    refine h.calm hi (fun z => ?_) (Nat.le_succ _) (fun row z hrow hz => (h.gn i x row z hi hrow hz).1) (fun z hz => ?_) (fun m hm z hz => ?_) (fun o row ho hk => h.or_ o row i x ho hi hk) (Nat.le_of_eq (cE_eq rfl rfl)) rfl
    · unfold pe flying
      show ((if x.up.isEmpty then [] else putsO none) ++ putsO x.P.wait).count z = ((if x.up.isEmpty then [] else putsO x.P.sent) ++ putsO x.P.wait).count z
      rw [hu]
      rfl
    · have hdw := h.dw i x z hi
      rw [hs] at hdw
      exact hdw hz
    · have hm : m ∈ x.up := hm
      rw [hu] at hm
      cases hm
  · have eP : psRecv x.P m.2.2 = { psTake x.P D with ver := x.P.ver + 1 } := by rw [e]; rfl
    rw [eP]
    have wS : ∀ s, x.P.sent = some s → s.Wf := fun s q => (hp.str.s s q).2
    have wW : ∀ s, x.P.wait = some s → s.Wf := fun s q => (hp.str.w s q).2
    have wF := past_wf (o := x.P.sent) wD
    have wG := past_wf (o := x.P.wait) wF
    have hX : (past D x.P.sent).ds.length = (appO x.P.sent x.P.base).length := past_ds wD hp.str.s hl.symm
    have hG : (past (past D x.P.sent) x.P.wait).ds.length = x.P.own.length := by
      rw [hp.str.o]
      exact past_ds wF hp.wX hX.symm
    have ePs : (past (past D x.P.sent) x.P.wait).ps.flatten = D.ps.flatten := (past_ps wF).trans (past_ps wD)
    -- what it puts belongs to another
    have oth : ∀ z ∈ D.ps.flatten, ∃ a, a ≠ i ∧ Own G (some a) z := fun z hz => by
      obtain ⟨a, h1, h2⟩ := h.od _ D z hD hz
      exact ⟨a, fun q => ha (by rw [← q]; exact h1), h2⟩
    refine h.calm hi (fun z => ?_) (Nat.le_succ _) (fun row z hrow hz => ?_) (fun z hz => ?_) (fun m hm z hz => h.df i x m z hi hm hz) (fun o row ho hk => ?_) (Nat.le_of_eq (cE_eq rfl ?_)) ?_
    · unfold pe flying
      show ((if x.up.isEmpty then [] else putsO (beyond D x.P.sent)) ++ putsO (beyond (past D x.P.sent) x.P.wait)).count z = ((if x.up.isEmpty then [] else putsO x.P.sent) ++ putsO x.P.wait).count z
      rw [putsO_beyond wS, putsO_beyond wW]
    · obtain ⟨h1, h2⟩ := h.gn i x row z hi hrow hz
      intro hin
      have hin : z ∈ app (past (past D x.P.sent) x.P.wait) x.P.own := hin
      rcases app_mem wG hG.symm hin with q | q
      · exact h1 q
      · rw [ePs] at q
        obtain ⟨a, a1, a2⟩ := oth z q
        have c1 := h.c1 z
        unfold cP at c1
        have hdz : 0 < dcnt z D := List.count_pos_iff.mpr q
        rcases h2 with h2 | h2 | ⟨j, E, j1, j2, j3⟩
        · exact a1 (Option.some.inj (own_uniq h.nd a2 h2))
        · have q1 := List.count_pos_iff.mpr h2
          have q2 : dcnt z D ≤ (C.S.deltas.map (dcnt z)).sum := sum_get hD
          have c1 : (C.S.tx 0).count z + (C.S.deltas.map (dcnt z)).sum + (C.ps.map (pend z)).sum ≤ 1 := c1
          omega
        · have q1 : 0 < dcnt z E := List.count_pos_iff.mpr j3
          have q2 := sum_take_get (f := dcnt z) (Nat.le_refl x.P.ver) hD
          have q3 : dcnt z E ≤ ((C.S.deltas.take x.P.ver).map (dcnt z)).sum := sum_get (i := j) (by rw [List.getElem?_take_of_lt j1]; exact j2)
          have c1 : (C.S.tx 0).count z + (C.S.deltas.map (dcnt z)).sum + (C.ps.map (pend z)).sum ≤ 1 := c1
          omega
    · have hz : z ∈ drO (beyond (past D x.P.sent) x.P.wait) (appO (beyond D x.P.sent) (app D x.P.base)) := hz
      rw [beyond_app wD hp.str.s hl.symm] at hz
      refine h.dw i x z hi ?_
      cases hw : x.P.wait with
      | none => rw [hw] at hz; cases hz
      | some w =>
        rw [hw] at hz
        have hw2 := hp.wX w hw
        exact (over_dr false wF (hX.trans hw2.1.symm)).mem hz
    · refine List.Sublist.trans ?_ (h.or_ o row i x ho hi hk)
      refine app_flt wG hG.symm fun z hz => decide_eq_false fun hz2 => ?_
      rw [ePs] at hz
      obtain ⟨a, a1, a2⟩ := oth z hz
      have := own_uniq h.nd a2 ⟨row, ho, hz2⟩
      rcases hk with q | q
      · rw [q] at this
        exact a1 (Option.some.inj this)
      · rw [q] at this; cases this
    · show (beyond (past D x.P.sent) x.P.wait).isSome = x.P.wait.isSome
      cases x.P.wait <;> rfl
    · show (mvB _ x.P.backs.reverse).reverse.length = _
      rw [List.length_reverse, mvB_len, List.length_reverse]
end Tc
/-! # The plain law, part 12: a delta goes up, an edit is made; what the walks ask -/
namespace Tc
theorem hear_pe (nm : PySem.Str) (n : Nat) (t : List Int) (D : Dl) (y : PgS) : pe (hear nm n t D y) = pe y := rfl
theorem hear_cE (nm : PySem.Str) (n : Nat) (t : List Int) (D : Dl) (y : PgS) : cE (hear nm n t D y) = cE y := rfl
theorem sum_hear {f : PgS → Nat} {nm : PySem.Str} {n : Nat} {t : List Int} {D : Dl} (hf : ∀ y, f (hear nm n t D y) = f y) (l : List PgS) : ((l.map (hear nm n t D)).map f).sum = (l.map f).sum := by
  rw [List.map_map]
  exact congrArg List.sum (List.map_congr_left fun y _ => hf y)
theorem GInv.subm {C : CoS} {G : Gh} {i v : Nat} {x : PgS} {D : Dl} {t : List Int} {rest : List (Nat × Dl × List Int)} (hC : CInv C) (h : GInv C G) (hi : C.ps[i]? = some x) (hu : x.up = (v, D, t) :: rest) : GInv (C.subm i x v D rest) G := by
  have hp := hC.p i x hi
  have hS := hC.s
  obtain ⟨rfl, rfl, r3, r4, r5, r6, r7⟩ := hp.l.subOwn (dn := x.dn) hS.n hS.a hp.v hu
  have hv : v ≤ C.S.deltas.length := Nat.le_trans r3 hp.v
  obtain ⟨R1, R2, R3, R4⟩ := re_at hS hv r4.w r5
  have eF : flying x = D.ps.flatten := by
    unfold flying
    rw [hu, r6]
    exact (fo_ps _ r4.w).1
  have eP : pe x = D.ps.flatten ++ putsO x.P.wait := by
    unfold pe
    rw [eF]
  have eP' : pe { x with up := [] } = putsO x.P.wait := rfl
  have e0 : (svSub C.S v D i).tx 0 = C.S.tx 0 := svSub_tx hS.n (Nat.zero_le _)
  have hsum : ∀ z, (((C.ps.set i { x with up := [] }).map (pend z)).sum + D.ps.flatten.count z) = (C.ps.map (pend z)).sum := fun z => by
    have := sum_set (f := pend z) (x' := { x with up := [] }) hi
    rw [pend_eq, pend_eq, eP, eP', List.count_append] at this
    omega
  have hdel : ∀ z, ((svSub C.S v D i).deltas.map (dcnt z)).sum = (C.S.deltas.map (dcnt z)).sum + D.ps.flatten.count z := fun z => by
    show ((C.S.deltas ++ [svRe C.S v D]).map (dcnt z)).sum = _
    rw [List.map_append, List.sum_append]
    show _ + (dcnt z (svRe C.S v D) + 0) = _
    unfold dcnt
    rw [R4]
    rfl
  have eup : ∀ j a, C.S.auth[j]? = some a → (svSub C.S v D i).auth[j]? = some a := fun j a e => by
    rw [sub_auth (List.getElem?_eq_some_iff.mp e).1]
    exact e
  have dup : ∀ j E, C.S.deltas[j]? = some E → (svSub C.S v D i).deltas[j]? = some E := fun j E e => by
    rw [sub_at (List.getElem?_eq_some_iff.mp e).1]
    exact e
  -- a program of the new company: an old one, but for the queues
  have old : ∀ {k : Nat} {y : PgS}, (C.subm i x v D []).ps[k]? = some y → ∃ z, C.ps[k]? = some z ∧ y.P = z.P ∧ (∀ m ∈ y.up, m ∈ z.up) ∧ (∀ q ∈ pe y, q ∈ pe z) := fun {k y} hy => by
    obtain ⟨z, hz, ⟨hij, rfl, rfl⟩ | ⟨hij, rfl⟩⟩ := subm_at hi hy
    · refine ⟨z, hz, rfl, fun m hm => (by cases hm), fun q hq => ?_⟩
      rw [hear_pe, eP'] at hq
      rw [eP]
      exact List.mem_append_right _ hq
    · exact ⟨z, hz, rfl, fun m hm => hm, fun q hq => by rw [hear_pe] at hq; exact hq⟩
  refine ⟨h.nd, h.ok, h.sl, h.n10, fun z => ?_, fun z hz => ?_, fun j E z hj hz => ?_, fun k y z hy hz => ?_, h.gs, fun k y row z hy hrow hz => ?_, fun k y z hy hz => ?_, fun k y m z hy hm hz => ?_, fun z hz hn => ?_, fun o row k y ho hy hk => ?_, ?_, fun y hy => ?_⟩
  · have c1 := h.c1 z
    have c1 : (C.S.tx 0).count z + (C.S.deltas.map (dcnt z)).sum + (C.ps.map (pend z)).sum ≤ 1 := c1
    show ((svSub C.S v D i).tx 0).count z + ((svSub C.S v D i).deltas.map (dcnt z)).sum + (((C.ps.set i { x with up := [] }).map (hear x.nm (C.S.deltas.length + 1) (svLast C.S) (svRe C.S v D))).map (pend z)).sum ≤ 1
    rw [sum_hear (fun y => by rw [pend_eq, pend_eq, hear_pe]), e0, hdel]
    have := hsum z
    omega
  · have hz : z ∈ (svSub C.S v D i).tx 0 := hz
    rw [e0] at hz
    exact h.o0 z hz
  · have hj : (svSub C.S v D i).deltas[j]? = some E := hj
    by_cases hlt : j < C.S.deltas.length
    · rw [sub_at hlt] at hj
      obtain ⟨a, h1, h2⟩ := h.od j E z hj hz
      exact ⟨a, eup j a h1, h2⟩
    · have hl := (List.getElem?_eq_some_iff.mp hj).1
      rw [sub_len] at hl
      obtain rfl : j = C.S.deltas.length := by omega
      rw [sub_new] at hj
      refine ⟨i, ?_, h.op i x z hi (List.mem_append_left _ ?_)⟩
      · show (svSub C.S v D i).auth[_]? = _
        rw [← hS.a]
        exact sub_auth_new
      · rw [← Option.some.inj hj, R4] at hz
        rw [eF]
        exact hz
  · obtain ⟨w, h1, _, _, h4⟩ := old hy
    exact h.op k w z h1 (h4 z hz)
  · obtain ⟨w, h1, h2, _, _⟩ := old hy
    rw [h2]
    obtain ⟨g1, g2⟩ := h.gn k w row z h1 hrow hz
    refine ⟨g1, g2.imp_right fun q => ?_⟩
    show z ∈ (svSub C.S v D i).tx 0 ∨ _
    rw [e0]
    exact q.imp_right fun ⟨j, E, q1, q2, q3⟩ => ⟨j, E, q1, dup j E q2, q3⟩
  · obtain ⟨w, h1, h2, _, _⟩ := old hy
    rw [h2] at hz
    exact h.dw k w z h1 hz
  · obtain ⟨w, h1, _, h3, _⟩ := old hy
    exact h.df k w m z h1 (h3 m hm) hz
  · have en : (svSub C.S v D i).tx (svSub C.S v D i).deltas.length = app (svRe C.S v D) (C.S.tx C.S.deltas.length) := by rw [sub_len, sub_tx_new hS.n]
    show z ∈ (svSub C.S v D i).tx (svSub C.S v D i).deltas.length ∨ _
    rw [en]
    rcases h.al z hz hn with q | ⟨k, y, hy, q⟩
    · refine .inl (app_stays R2 R1.symm q fun hd => hn ?_)
      exact h.df i x (v, D, C.S.tx v) z hi (by rw [hu]; exact List.mem_cons_self ..) (R3 z hd)
    · by_cases hk : i = k
      · subst hk
        obtain rfl := Option.some.inj (hi.symm.trans hy)
        have q : z ∈ pe x := q
        rw [eP] at q
        rcases List.mem_append.mp q with q | q
        · exact .inl (puts_in R2 (by rw [R4]; exact q))
        · refine .inr ⟨i, hear x.nm (C.S.deltas.length + 1) (svLast C.S) (svRe C.S v D) { x with up := [] }, ?_, q⟩
          show ((C.ps.set i { x with up := [] }).map _)[i]? = _
          rw [List.getElem?_map, List.getElem?_set_self (List.getElem?_eq_some_iff.mp hi).1]
          rfl
      · refine .inr ⟨k, hear x.nm (C.S.deltas.length + 1) (svLast C.S) (svRe C.S v D) y, ?_, q⟩
        show ((C.ps.set i { x with up := [] }).map _)[k]? = _
        rw [List.getElem?_map, List.getElem?_set_ne hk, hy]
        rfl
  · obtain ⟨w, h1, h2, _, _⟩ := old hy
    rw [h2]
    exact h.or_ o row k w ho h1 hk
  · show (svSub C.S v D i).deltas.length + (((C.ps.set i { x with up := [] }).map (hear x.nm (C.S.deltas.length + 1) (svLast C.S) (svRe C.S v D))).map cE).sum ≤ _
    rw [sum_hear (fun y => hear_cE _ _ _ _ y), sub_len]
    have e1 := sum_set (f := cE) (x' := { x with up := [] }) hi
    have e2 : cE x = 1 + b2n x.P.wait.isSome := by
      unfold cE
      rw [hu]
      rfl
    have e3 : cE { x with up := [] } = b2n x.P.wait.isSome := Nat.zero_add _
    have := h.e
    omega
  · obtain ⟨k, hk⟩ := List.getElem?_of_mem hy
    obtain ⟨w, h1, h2, _, _⟩ := old hk
    rw [h2]
    exact h.bk w (List.mem_of_getElem? h1)
/-! ## An edit -/
def Gh.edit (G : Gh) (i : Nat) (cs dd : List Int) : Gh := ⟨G.rows ++ [(some i, cs)], G.gone ++ [(i, dd)], G.ne + 1⟩
theorem edit_seen (G : Gh) (i : Nat) (cs dd : List Int) : (G.edit i cs dd).seen = G.seen ++ cs := by
  unfold Gh.seen Gh.edit
  rw [List.flatMap_append]
  simp
theorem waitD_ps {P : PS} {D : Dl} : putsO (psChange P D).wait = (match P.wait with | none => D | some W => gaps (comp W D)).ps.flatten := rfl
theorem filter_self {cs a b : List Int} (ha : ∀ x ∈ a, x ∉ cs) (hb : ∀ x ∈ b, x ∉ cs) : ((a ++ (cs ++ b)).filter fun x => decide (x ∈ cs)) = cs := by
  have h1 : ∀ l : List Int, (∀ x ∈ l, x ∉ cs) → (l.filter fun x => decide (x ∈ cs)) = [] := fun l h => List.filter_eq_nil_iff.mpr fun x hx => by simpa using h x hx
  rw [List.filter_append, List.filter_append, h1 a ha, h1 b hb, List.nil_append, List.append_nil]
  exact List.filter_eq_self.mpr fun x hx => by simpa using hx
theorem GInv.edit {C : CoS} {G : Gh} {i b l : Nat} {x : PgS} {cs : List Int} (hC : CInv C) (h : GInv C G) (hi : C.ps[i]? = some x) (hbl : b ≤ l) (hl : l ≤ x.P.own.length) (hn : cs.Nodup) (hf : ∀ z ∈ cs, z ∉ G.seen) (hok : ∀ z ∈ cs, ChOk z) (h3 : cs.length ≤ 3) (h9 : G.ne ≤ 9) :
    GInv (C.setP i { x with P := psChange x.P (edD b l x.P.own.length cs) }) (G.edit i cs ((x.P.own.take l).drop b)) := by
  have hp := hC.p i x hi
  obtain ⟨ea, ed⟩ := edD_app (cs := cs) hbl hl rfl
  have wD := edD_wf b l x.P.own.length cs
  have hD := edD_ds b l x.P.own.length cs
  have hps := edD_ps (l := l) (cs := cs) (show b ≤ x.P.own.length by omega)
  generalize edD b l x.P.own.length cs = D at *
  have hown : ∀ z, x.P.own.count z ≤ 1 := fun z => Nat.le_trans (own_le hC.s hp hi z) (h.c1 z)
  have hseen : ∀ z ∈ x.P.own, z ∈ G.seen := fun z hz => h.of_pos (Nat.lt_of_lt_of_le (List.count_pos_iff.mpr hz) (own_le hC.s hp hi z))
  have hfO : ∀ z ∈ cs, z ∉ x.P.own := fun z hz hz2 => hf z hz (hseen z hz2)
  have hdd : ∀ z ∈ (x.P.own.take l).drop b, z ∈ x.P.own := fun z hz => List.mem_of_mem_take (List.mem_of_mem_drop hz)
  -- what waits: counts
  have hX : (appO x.P.sent x.P.base).length = x.P.mid := hp.str.mid_
  have wc : ∀ z, (putsO (psChange x.P D).wait).count z ≤ (putsO x.P.wait).count z + cs.count z := fun z => by
    rw [waitD_ps]
    cases hw : x.P.wait with
    | none =>
      show D.ps.flatten.count z ≤ 0 + _
      rw [hps]
      omega
    | some W =>
      show (gaps (comp W D)).ps.flatten.count z ≤ W.ps.flatten.count z + _
      rw [← hps]
      exact comp_cnt (hp.str.w W hw).2 z
  -- what waits: as a whole it does what it did, and the edit
  have hstr := hp.str.change wD hD (by
    have := (h.tok (t := x.P.own) fun z => own_le hC.s hp hi z).2.2.1
    omega)
  have hS' : ∀ s, (psChange x.P D).wait = some s → s.ds.length = (appO x.P.sent x.P.base).length ∧ s.Wf := fun s hs => by
    have := hstr.w s hs
    rw [← hstr.mid_] at this
    exact this
  have hXc : ∀ z, (appO x.P.sent x.P.base).count z + (putsO x.P.wait).count z ≤ 1 := fun z => by
    have h1 := own_count hC.s hp hi z
    have h2 := appO_count (o := x.P.sent) (t := x.P.base) z hp.str.s
    have := h.c1 z
    omega
  have wcnt : ∀ z, (app D x.P.own).count z + (drO (psChange x.P D).wait (appO x.P.sent x.P.base)).count z = (appO x.P.sent x.P.base).count z + (putsO (psChange x.P D).wait).count z := fun z => by
    have h1 := appO_count (o := (psChange x.P D).wait) (t := appO x.P.sent x.P.base) z hS'
    have h2 := hstr.o
    have h2 : app D x.P.own = appO (psChange x.P D).wait (appO x.P.sent x.P.base) := h2
    rw [← h2] at h1
    exact h1
  have ocnt : ∀ z, x.P.own.count z + (drO x.P.wait (appO x.P.sent x.P.base)).count z = (appO x.P.sent x.P.base).count z + (putsO x.P.wait).count z := fun z => by
    have h1 := appO_count (o := x.P.wait) (t := appO x.P.sent x.P.base) z hp.wX
    rw [← hp.str.o] at h1
    exact h1
  have dcnt_ : ∀ z, (app D x.P.own).count z + ((x.P.own.take l).drop b).count z = x.P.own.count z + cs.count z := fun z => by
    have := app_cnt wD hD.symm z
    rw [ed, hps] at this
    exact this
  have hseen' := edit_seen G i cs ((x.P.own.take l).drop b)
  have hgone' : ∀ z, Gone (G.edit i cs ((x.P.own.take l).drop b)) z ↔ Gone G z ∨ z ∈ (x.P.own.take l).drop b := fun z => by
    constructor
    · rintro ⟨k, row, h1, h2⟩
      rcases List.mem_append.mp h1 with h1 | h1
      · exact .inl ⟨k, row, h1, h2⟩
      · obtain ⟨rfl, rfl⟩ := Prod.mk.inj (List.mem_singleton.mp h1)
        exact .inr h2
    · rintro (⟨k, row, h1, h2⟩ | h1)
      · exact ⟨k, row, List.mem_append_left _ h1, h2⟩
      · exact ⟨i, _, List.mem_append_right _ (List.mem_singleton.mpr rfl), h1⟩
  have ownI : ∀ z ∈ cs, Own (G.edit i cs ((x.P.own.take l).drop b)) (some i) z := fun z hz => ⟨cs, List.mem_append_right _ (List.mem_singleton.mpr rfl), hz⟩
  have hrows : ∀ q ∈ G.rows, q ∈ (G.edit i cs ((x.P.own.take l).drop b)).rows := fun q hq => List.mem_append_left _ hq
  have hfly : flying { x with P := psChange x.P D } = flying x := rfl
  have hpe' : ∀ z, (pe { x with P := psChange x.P D }).count z ≤ (pe x).count z + cs.count z := fun z => by
    unfold pe
    rw [hfly, List.count_append, List.count_append]
    have := wc z
    show _ + (putsO (psChange x.P D).wait).count z ≤ _
    omega
  refine h.set hi ?_ ?_ ?_ (by show G.ne + 1 ≤ 10; omega) ?_ hrows (fun q hq => List.mem_append_left _ hq) (fun z => ?_) (fun z hz => ?_) (fun row z hrow hz => ?_) (fun k row hk hki => ?_) (fun z hz => ?_) (fun m hm z hz => ?_) (fun z hz hng => ?_) (fun o row ho hk => ?_) (fun o row ho => ?_) ?_ ?_ (by show G.ne ≤ G.ne + 1; omega)
  · rw [hseen', List.nodup_append]
    exact ⟨h.nd, hn, fun a ha c hc e => hf c hc (by rw [← e]; exact ha)⟩
  · rw [hseen']
    exact fun z hz => (List.mem_append.mp hz).elim (h.ok z) (hok z)
  · rw [hseen', List.length_append]
    have := h.sl
    show _ ≤ 8 + 3 * (G.ne + 1)
    omega
  · intro z hz
    rw [hseen']
    rcases (hgone' z).mp hz with q | q
    · exact List.mem_append_left _ (h.gs z q)
    · exact List.mem_append_left _ (hseen z (hdd z q))
  · have e := cP_set (x' := { x with P := psChange x.P D }) hi z
    have c1 := h.c1 z
    have c2 := hpe' z
    by_cases hz : z ∈ cs
    · have : cP C z = 0 := Nat.eq_zero_of_not_pos fun q => hf z hz (h.of_pos q)
      have := List.nodup_iff_count.mp hn z
      omega
    · rw [List.count_eq_zero_of_not_mem hz] at c2
      omega
  · have c2 := hpe' z
    have := List.count_pos_iff.mpr hz
    by_cases hc : z ∈ cs
    · exact ownI z hc
    · rw [List.count_eq_zero_of_not_mem hc] at c2
      exact own_more hrows (h.op i x z hi (List.count_pos_iff.mp (show 0 < (pe x).count z by omega)))
  · show z ∉ app D x.P.own ∧ Kn C _ i x.P.ver z
    have kn : ∀ {q}, Kn C G i x.P.ver q → Kn C (G.edit i cs ((x.P.own.take l).drop b)) i x.P.ver q := fun q => q.imp_left (own_more hrows)
    rcases List.mem_append.mp hrow with q | q
    · obtain ⟨g1, g2⟩ := h.gn i x row z hi q hz
      refine ⟨fun hin => ?_, kn g2⟩
      rcases app_mem wD hD.symm hin with w | w
      · exact g1 w
      · rw [hps] at w
        exact hf z w (h.gs z ⟨i, row, q, hz⟩)
    · obtain ⟨_, rfl⟩ := Prod.mk.inj (List.mem_singleton.mp q)
      refine ⟨dr_out wD hD.symm ?_ (by rw [ed]; exact hz), kn (h.kn hC hi (hdd z hz))⟩
      have h1 := hown z
      have h2 : cs.count z = 0 := List.count_eq_zero_of_not_mem fun w => hfO z w (hdd z hz)
      rw [hps]
      omega
  · rcases List.mem_append.mp hk with q | q
    · exact q
    · exact absurd (Prod.mk.inj (List.mem_singleton.mp q)).1 hki
  · have hz : z ∈ drO (psChange x.P D).wait (appO x.P.sent x.P.base) := hz
    rw [hgone']
    by_cases hc : z ∈ (x.P.own.take l).drop b
    · exact .inr hc
    · refine .inl (h.dw i x z hi (List.count_pos_iff.mp ?_))
      have q1 := List.count_pos_iff.mpr hz
      have q2 := wcnt z
      have q3 := ocnt z
      have q4 := dcnt_ z
      have q5 := wc z
      rw [List.count_eq_zero_of_not_mem hc] at q4
      omega
  · exact (hgone' z).mpr (.inl (h.df i x m z hi hm hz))
  · rw [hgone'] at hng
    rw [hseen'] at hz
    have hng1 : ¬ Gone G z := fun q => hng (.inl q)
    have hng2 : z ∉ (x.P.own.take l).drop b := fun q => hng (.inr q)
    -- in the text and not in what lies under the waiting: then it waits
    have key : 0 < (app D x.P.own).count z → (appO x.P.sent x.P.base).count z = 0 → z ∈ pe { x with P := psChange x.P D } := fun q1 q2 => by
      have q3 := wcnt z
      exact List.mem_append_right _ (List.count_pos_iff.mp (show 0 < (putsO (psChange x.P D).wait).count z by omega))
    rcases List.mem_append.mp hz with q | q
    · rcases h.al z q hng1 with a | ⟨k, y, hy, a⟩
      · exact .inl a
      · by_cases hk : k = i
        · subst hk
          obtain rfl := Option.some.inj (hi.symm.trans hy)
          rcases List.mem_append.mp a with a | a
          · exact .inr (.inl (List.mem_append_left _ a))
          · have q1 := List.count_pos_iff.mpr a
            have q2 := hXc z
            have q3 : z ∉ drO x.P.wait (appO x.P.sent x.P.base) := fun w => hng1 (h.dw k x z hi w)
            have q4 := ocnt z
            rw [List.count_eq_zero_of_not_mem q3] at q4
            have q5 := dcnt_ z
            rw [List.count_eq_zero_of_not_mem hng2] at q5
            exact .inr (.inl (key (by omega) (by omega)))
        · exact .inr (.inr ⟨k, y, hk, hy, a⟩)
    · have q1 := List.count_pos_iff.mpr q
      have q2 := dcnt_ z
      rw [List.count_eq_zero_of_not_mem hng2] at q2
      have q0 : x.P.own.count z = 0 := List.count_eq_zero_of_not_mem (hfO z q)
      have q3 : drO x.P.wait (appO x.P.sent x.P.base) = drO x.P.wait (appO x.P.sent x.P.base) := rfl
      refine .inr (.inl (key (by omega) ?_))
      refine Nat.eq_zero_of_not_pos fun w => hf z q ?_
      have h1 := own_count hC.s hp hi z
      have h2 := appO_count (o := x.P.sent) (t := x.P.base) z hp.str.s
      exact h.of_pos (by omega)
  · show ((app D x.P.own).filter fun x => decide (x ∈ row)).Sublist row
    rcases List.mem_append.mp ho with q | q
    · refine List.Sublist.trans ?_ (h.or_ o row i x q hi hk)
      refine app_flt wD hD.symm fun z hz => decide_eq_false fun w => ?_
      rw [hps] at hz
      exact hf z hz (List.mem_flatMap.mpr ⟨_, q, w⟩)
    · obtain ⟨_, rfl⟩ := Prod.mk.inj (List.mem_singleton.mp q)
      rw [ea, filter_self (fun z hz w => hfO z w (List.mem_of_mem_take hz)) (fun z hz w => hfO z w (List.mem_of_mem_drop hz))]
      exact List.Sublist.refl _
  · rcases List.mem_append.mp ho with q | q
    · exact .inl q
    · exact .inr (Prod.mk.inj (List.mem_singleton.mp q)).1
  · have e1 : cE { x with P := psChange x.P D } ≤ cE x + 1 := by
      unfold cE
      show b2n (!x.up.isEmpty) + 1 ≤ _
      omega
    have := h.e
    show _ ≤ G.ne + 1 + cE x
    omega
  · show (x.P.backs ++ [_]).length ≤ G.ne + 1
    rw [List.length_append]
    have := h.bk x (List.mem_of_getElem? hi)
    show _ + 1 ≤ _
    omega
end Tc
/-! # The plain law, part 13: all together; a round of settling; the end -/
namespace Tc
structure Inv (C : CoS) (G : Gh) : Prop where
  c : CInv C
  g : GInv C G
section
variable {C : CoS} {G : Gh} {i : Nat} {x : PgS}
theorem Inv.len (h : Inv C G) : C.S.deltas.length ≤ 10 := by
  have h1 := h.g.e
  have h2 := h.g.n10
  omega
theorem Inv.putsOk (h : Inv C G) {D : Dl} (w : D.Wf) (hc : ∀ z, D.ps.flatten.count z ≤ cP C z) : DOk D := by
  obtain ⟨_, _, h3, h4⟩ := h.g.tok hc
  exact ⟨w, by omega, h4.c⟩
theorem Inv.psOk (h : Inv C G) (hi : C.ps[i]? = some x) : PsOk x.P := by
  have hp := h.c.p i x hi
  have hoc := fun z => own_count h.c.s hp hi z
  have tb : TOk x.P.base := (h.g.tok (t := x.P.base) fun z => by have := hoc z; omega).2.2.2
  have hl := (h.g.tok (t := x.P.own) fun z => own_le h.c.s hp hi z)
  refine ⟨tb, hl.2.2.2, fun s hs => ?_, fun w hw => ?_, hp.str.end__, hp.str.ch, ?_⟩
  · obtain ⟨s1, s2⟩ := hp.str.s s hs
    refine ⟨s1, h.putsOk s2 fun z => ?_⟩
    have := hoc z
    rw [hs] at this
    have e : (putsO (some s)).count z = s.ps.flatten.count z := rfl
    omega
  · obtain ⟨s1, s2⟩ := hp.str.w w hw
    refine ⟨s1, h.putsOk s2 fun z => ?_⟩
    have := hoc z
    rw [hw] at this
    have e : (putsO (some w)).count z = w.ps.flatten.count z := rfl
    omega
  · have h1 := h.g.bk x (List.mem_of_getElem? hi)
    have h2 := h.g.n10
    omega
theorem Inv.delOk (h : Inv C G) {j : Nat} {D : Dl} (hD : C.S.deltas[j]? = some D) : DOk D := by
  obtain ⟨d1, d2⟩ := h.c.s.d j D hD
  refine h.putsOk d2 fun z => ?_
  have h1 : dcnt z D ≤ (C.S.deltas.map (dcnt z)).sum := sum_get hD
  show _ ≤ (C.S.tx 0).count z + (C.S.deltas.map (dcnt z)).sum + (C.ps.map (pend z)).sum
  have e : dcnt z D = D.ps.flatten.count z := rfl
  omega
theorem Inv.svOk (h : Inv C G) : SvOk C.S := by
  have hl := h.len
  refine ⟨h.c.s.n, by omega, fun t ht => ?_, fun j D hD => ?_⟩
  · obtain ⟨j, hj⟩ := List.getElem?_of_mem ht
    have hjl := (List.getElem?_eq_some_iff.mp hj).1
    have hn := h.c.s.n
    have e : C.S.tx j = t := by
      unfold SV.tx
      rw [List.getD_eq_getElem?_getD, hj]
      rfl
    rw [← e]
    exact (h.g.tok fun z => tx_le h.c.s z (by omega)).2.2.2
  · obtain ⟨d1, d2⟩ := h.c.s.d j D hD
    refine ⟨d1, ?_, h.delOk hD⟩
    show aft D = (C.S.tx (j + 1)).length
    rw [h.c.s.t j D hD, app_ln d2]
theorem Inv.dnLen (h : Inv C G) : ∀ y ∈ C.ps, y.dn.length ≤ 1000 := fun y hy => by
  obtain ⟨j, hj⟩ := List.getElem?_of_mem hy
  rw [(h.c.p j y hj).d, List.length_map, List.length_range']
  have := h.len
  omega
theorem Inv.upLen (h : Inv C G) (hi : C.ps[i]? = some x) : x.up.length ≤ 1 := by
  cases (h.c.p i x hi).l with
  | idle h1 h2 h3 => rw [h2]; exact Nat.zero_le _
  | fly v D h1 h2 h3 h4 h5 h6 => rw [h1]; exact Nat.le_refl 1
  | done j s h1 h2 h3 h4 h5 h6 => rw [h1]; exact Nat.zero_le _
theorem Inv.upOk (h : Inv C G) (hi : C.ps[i]? = some x) {v : Nat} {D : Dl} {t : List Int} {rest : List (Nat × Dl × List Int)} (hu : x.up = (v, D, t) :: rest) : rest = [] ∧ v ≤ C.S.deltas.length ∧ C.S.texts[v]? = some t ∧ DOk D := by
  have hp := h.c.p i x hi
  obtain ⟨r1, r2, r3, r4, r5, r6, r7⟩ := hp.l.subOwn (dn := x.dn) h.c.s.n h.c.s.a hp.v hu
  have hv := Nat.le_trans r3 hp.v
  refine ⟨r1, hv, ?_, r4⟩
  have hn := h.c.s.n
  rw [r2]
  unfold SV.tx
  rw [List.getD_eq_getElem?_getD, List.getElem?_eq_getElem (by omega)]
  rfl
theorem Inv.send (h : Inv C G) (hi : C.ps[i]? = some x) {W : Dl} (hw : x.P.wait = some W) (hs : x.P.sent = none) : Inv (C.setP i { x with P := psSend x.P, up := x.up ++ [(x.P.ver, W, x.P.base)] }) G :=
  ⟨h.c.set hi rfl ((h.c.p i x hi).send hs hw ((h.psOk hi).w W hw).2), h.g.send h.c hi hs hw⟩
theorem Inv.recv (h : Inv C G) (hi : C.ps[i]? = some x) {m : Nat × List Int × Dn} {rest : List (Nat × List Int × Dn)} (hd : x.dn = m :: rest) : Inv (C.setP i { x with P := psRecv x.P m.2.2, dn := rest }) G :=
  ⟨h.c.set hi rfl ((h.c.p i x hi).recv h.c.s hd).2.2.1, h.g.recv h.c hi hd⟩
theorem Inv.subm (h : Inv C G) (hi : C.ps[i]? = some x) {v : Nat} {D : Dl} {t : List Int} {rest : List (Nat × Dl × List Int)} (hu : x.up = (v, D, t) :: rest) : Inv (C.subm i x v D rest) G :=
  ⟨h.c.subm hi hu, h.g.subm h.c hi hu⟩
theorem Inv.edit (h : Inv C G) (hi : C.ps[i]? = some x) {b l : Nat} {cs : List Int} (hbl : b ≤ l) (hl : l ≤ x.P.own.length) (hn : cs.Nodup) (hf : ∀ z ∈ cs, z ∉ G.seen) (hok : ∀ z ∈ cs, ChOk z) (h3 : cs.length ≤ 3) (h9 : G.ne ≤ 9) :
    Inv (C.setP i { x with P := psChange x.P (edD b l x.P.own.length cs) }) (G.edit i cs ((x.P.own.take l).drop b)) := by
  refine ⟨h.c.set hi rfl ((h.c.p i x hi).change (edD_wf ..) (edD_ds ..) ?_), h.g.edit h.c hi hbl hl hn hf hok h3 h9⟩
  have := (h.psOk hi).o.l
  have := (h.g.tok (t := x.P.own) fun z => own_le h.c.s (h.c.p i x hi) hi z).2.2.1
  omega
/-- what a message that comes down asks -/
theorem Inv.downOk (h : Inv C G) (hi : C.ps[i]? = some x) {m : Nat × List Int × Dn} {rest : List (Nat × List Int × Dn)} (hd : x.dn = m :: rest) : x.dn = (x.P.ver + 1, x.P.base, m.2.2) :: rest ∧ x.P.ver < 1000000 ∧ (match m.2.2 with | .ack => x.P.sent ≠ none | .chg D => D.ds.length = x.P.base.length ∧ DOk D) := by
  obtain ⟨e1, e2, _, hc⟩ := (h.c.p i x hi).recv h.c.s hd
  have hv := (h.c.p i x hi).v
  have hl := h.len
  refine ⟨by rw [hd, ← e1, ← e2], by omega, ?_⟩
  rcases hc with ⟨s, e, hs, _⟩ | ⟨D, e, hD, _, hl2, w⟩
  · rw [e]
    show x.P.sent ≠ none
    rw [hs]
    exact fun z => by cases z
  · rw [e]
    exact ⟨hl2, h.delOk hD⟩
end
/-! ## Settling -/
def upsNil (C : CoS) (k : Nat) : Prop := ∀ j y, j < k → C.ps[j]? = some y → y.up = []
def dnsNil (C : CoS) (k : Nat) : Prop := ∀ j y, j < k → C.ps[j]? = some y → y.dn = []
def waitNil (C : CoS) (k : Nat) : Prop := ∀ j y, j < k → C.ps[j]? = some y → y.P.wait = none
def sentNil (C : CoS) (k : Nat) : Prop := ∀ j y, k ≤ j → C.ps[j]? = some y → y.P.sent = none
def Calm (C : CoS) : Prop := ∀ (j : Nat) (y : PgS), C.ps[j]? = some y → y.up = [] ∧ y.dn = [] ∧ y.P.sent = none
structure Ra (c : Bool) (j : Nat) (C : CoS) : Prop where
  u : upsNil C j
  w : c = true → waitNil C j ∧ sentNil C j
structure Rai (c : Bool) (j : Nat) (C : CoS) : Prop where
  u : upsNil C j
  w : c = true → waitNil C (j + 1) ∧ sentNil C (j + 1)
structure Rb (c : Bool) (j : Nat) (C : CoS) : Prop where
  u : ∀ (k : Nat) (y : PgS), C.ps[k]? = some y → y.up = []
  d : dnsNil C j
  w : c = true → ∀ (k : Nat) (y : PgS), C.ps[k]? = some y → y.P.wait = none
section
variable {C : CoS} {G : Gh} {i : Nat} {x x' : PgS} {c : Bool}
theorem setP_at (hi : C.ps[i]? = some x) {k : Nat} {y : PgS} (hy : (C.setP i x').ps[k]? = some y) : (k = i ∧ y = x') ∨ (k ≠ i ∧ C.ps[k]? = some y) := by
  have hy : (C.ps.set i x')[k]? = some y := hy
  by_cases hk : i = k
  · subst hk
    rw [List.getElem?_set_self (List.getElem?_eq_some_iff.mp hi).1] at hy
    exact .inl ⟨rfl, (Option.some.inj hy).symm⟩
  · rw [List.getElem?_set_ne hk] at hy
    exact .inr ⟨fun z => hk z.symm, hy⟩
theorem Ra.start (h : c = true → Calm C) : Ra c 0 C := ⟨fun j y hj _ => absurd hj (Nat.not_lt_zero _), fun e => ⟨fun j y hj _ => absurd hj (Nat.not_lt_zero _), fun j y _ hy => (h e j y hy).2.2⟩⟩
theorem Ra.stay (h : Ra c i C) (hi : C.ps[i]? = some x) (hno : x.P.wait = none ∨ x.P.sent ≠ none) : Rai c i C := by
  refine ⟨h.u, fun e => ⟨fun j y hj hy => ?_, fun j y hj hy => (h.w e).2 j y (by omega) hy⟩⟩
  by_cases hj2 : j = i
  · subst hj2
    obtain rfl := Option.some.inj (hi.symm.trans hy)
    rcases hno with q | q
    · exact q
    · exact absurd ((h.w e).2 j x (Nat.le_refl _) hi) q
  · exact (h.w e).1 j y (by omega) hy
theorem Ra.sent (h : Ra c i C) (hi : C.ps[i]? = some x) (hw : x'.P.wait = none) : Rai c i (C.setP i x') := by
  refine ⟨fun j y hj hy => ?_, fun e => ⟨fun j y hj hy => ?_, fun j y hj hy => ?_⟩⟩
  · rcases setP_at hi hy with ⟨rfl, rfl⟩ | ⟨hk, hy⟩
    · omega
    · exact h.u j y hj hy
  · rcases setP_at hi hy with ⟨rfl, rfl⟩ | ⟨hk, hy⟩
    · exact hw
    · exact (h.w e).1 j y (by omega) hy
  · rcases setP_at hi hy with ⟨rfl, rfl⟩ | ⟨hk, hy⟩
    · omega
    · exact (h.w e).2 j y (by omega) hy
theorem Rai.subm (h : Rai c i C) (hi : C.ps[i]? = some x) {v : Nat} {D : Dl} : Rai c i (C.subm i x v D []) := by
  refine ⟨fun j y hj hy => ?_, fun e => ⟨fun j y hj hy => ?_, fun j y hj hy => ?_⟩⟩
  all_goals obtain ⟨z, hz, ⟨hij, rfl, rfl⟩ | ⟨hij, rfl⟩⟩ := subm_at hi hy
  · rfl
  · exact h.u j z hj hz
  · exact (h.w e).1 j z hj hz
  · exact (h.w e).1 j z hj hz
  · exact (h.w e).2 j z hj hz
  · exact (h.w e).2 j z hj hz
theorem Rai.next (h : Rai c i C) (hi : C.ps[i]? = some x) (hu : x.up = []) : Ra c (i + 1) C := by
  refine ⟨fun j y hj hy => ?_, h.w⟩
  by_cases hj2 : j = i
  · subst hj2
    obtain rfl := Option.some.inj (hi.symm.trans hy)
    exact hu
  · exact h.u j y (by omega) hy
theorem Ra.all (h : Ra c C.ps.length C) : Rb c 0 C :=
  ⟨fun k y hy => h.u k y (List.getElem?_eq_some_iff.mp hy).1 hy, fun j y hj _ => absurd hj (Nat.not_lt_zero _), fun e k y hy => (h.w e).1 k y (List.getElem?_eq_some_iff.mp hy).1 hy⟩
theorem recv_wait {P : PS} {m : Dn} (h : P.wait = none) : (psRecv P m).wait = none := by
  cases m with
  | ack => exact h
  | chg D =>
    show beyond _ P.wait = none
    rw [h]
    rfl
theorem Rb.recv (h : Rb c i C) (hi : C.ps[i]? = some x) {m : Dn} {rest : List (Nat × List Int × Dn)} : Rb c i (C.setP i { x with P := psRecv x.P m, dn := rest }) := by
  refine ⟨fun k y hy => ?_, fun k y hk hy => ?_, fun e k y hy => ?_⟩
  all_goals rcases setP_at hi hy with ⟨rfl, rfl⟩ | ⟨hk2, hy⟩
  · exact h.u _ x hi
  · exact h.u k y hy
  · omega
  · exact h.d k y hk hy
  · exact recv_wait (h.w e _ x hi)
  · exact h.w e k y hy
theorem Rb.next (h : Rb c i C) (hi : C.ps[i]? = some x) (hd : x.dn = []) : Rb c (i + 1) C := by
  refine ⟨h.u, fun j y hj hy => ?_, h.w⟩
  by_cases hj2 : j = i
  · subst hj2
    obtain rfl := Option.some.inj (hi.symm.trans hy)
    exact hd
  · exact h.d j y (by omega) hy
theorem Inv.emptyDn (h : Inv C G) (hi : C.ps[i]? = some x) (hd : x.dn = []) : x.P.ver = C.S.deltas.length := by
  have hp := h.c.p i x hi
  have e := congrArg List.length hp.d
  rw [hd, List.length_map, List.length_range'] at e
  have := hp.v
  simp at e
  omega
theorem Inv.emptyAll (h : Inv C G) (hi : C.ps[i]? = some x) (hu : x.up = []) (hd : x.dn = []) : x.P.sent = none := by
  have hp := h.c.p i x hi
  have hv := h.emptyDn hi hd
  cases hp.l with
  | idle h1 h2 h3 => exact h1
  | fly v D h1 h2 h3 h4 h5 h6 => rw [hu] at h1; cases h1
  | done j s h1 h2 h3 h4 h5 h6 =>
    have h7 := (List.getElem?_eq_some_iff.mp h4).1
    have := h.c.s.a
    omega
theorem Rb.calm (h : Rb c C.ps.length C) (hI : Inv C G) : Calm C := fun j y hy => by
  have hd := h.d j y (List.getElem?_eq_some_iff.mp hy).1 hy
  exact ⟨h.u j y hy, hd, hI.emptyAll hy (h.u j y hy) hd⟩
theorem Rb.quiet (h : Rb true C.ps.length C) (hI : Inv C G) : quietB C = true := by
  unfold quietB
  rw [List.all_eq_true]
  intro y hy
  obtain ⟨j, hj⟩ := List.getElem?_of_mem hy
  obtain ⟨h1, h2, h3⟩ := h.calm hI j y hj
  unfold quiet1
  rw [h1, h2, h3, h.w rfl j y hj]
  rfl
theorem quiet_at (h : quietB C = true) (hi : C.ps[i]? = some x) : x.up = [] ∧ x.dn = [] ∧ x.P.sent = none ∧ x.P.wait = none := by
  have h1 := List.all_eq_true.mp h x (List.mem_of_getElem? hi)
  unfold quiet1 at h1
  rw [Bool.and_eq_true, Bool.and_eq_true, Bool.and_eq_true] at h1
  obtain ⟨h1, h2, h3, h4⟩ := h1
  exact ⟨List.isEmpty_iff.mp h1, List.isEmpty_iff.mp h2, Option.isNone_iff_eq_none.mp h3, Option.isNone_iff_eq_none.mp h4⟩
end
/-! ## The end -/
structure GIx (n : Nat) (G : Gh) : Prop where
  g : ∀ q ∈ G.gone, q.1 < n
  r : ∀ (i : Nat) (row : List Int), (some i, row) ∈ G.rows → i < n
structure Ends (C : CoS) (G : Gh) (t : List Int) : Prop where
  v : ∀ y ∈ C.ps, y.P.ver = C.S.deltas.length ∧ y.P.base = t ∧ y.P.own = t ∧ y.up = [] ∧ y.dn = []
  nd : t.Nodup
  s : ∀ x ∈ t, x ∈ G.seen ∧ ¬ Gone G x
  a : ∀ x ∈ G.seen, ¬ Gone G x → x ∈ t
  o : ∀ o row, (o, row) ∈ G.rows → (t.filter fun x => decide (x ∈ row)) = row.filter fun x => decide (x ∈ t)
theorem sub_filter_eq : ∀ {t row : List Int}, row.Nodup → (t.filter fun x => decide (x ∈ row)).Sublist row → t.Nodup → (t.filter fun x => decide (x ∈ row)) = row.filter fun x => decide (x ∈ t) := fun {t row} hn hs ht => by
  have h1 := hs.filter fun x => decide (x ∈ t)
  have h2 : ((t.filter fun x => decide (x ∈ row)).filter fun x => decide (x ∈ t)) = t.filter fun x => decide (x ∈ row) := List.filter_eq_self.mpr fun x hx => by simpa using (List.mem_filter.mp hx).1
  rw [h2] at h1
  refine h1.eq_of_length_le ?_
  refine len_sub (hn.sublist List.filter_sublist) fun x hx => ?_
  obtain ⟨a, b⟩ := List.mem_filter.mp hx
  exact List.mem_filter.mpr ⟨of_decide_eq_true b, decide_eq_true a⟩
theorem nodup_flat : ∀ {rows : List (Option Nat × List Int)} {q : Option Nat × List Int}, (rows.flatMap (·.2)).Nodup → q ∈ rows → q.2.Nodup
  | [], _, _, h => by cases h
  | p :: rows, q, hn, h => by
    have hn : (p.2 ++ rows.flatMap (·.2)).Nodup := hn
    rw [List.nodup_append] at hn
    rcases List.mem_cons.mp h with e | e
    · rw [e]
      exact hn.1
    · exact nodup_flat hn.2.1 e
theorem Inv.ends {C : CoS} {G : Gh} (h : Inv C G) (hx : GIx C.ps.length G) (h0 : 0 < C.ps.length) (hq : quietB C = true) : Ends C G (C.S.tx C.S.deltas.length) := by
  have one : ∀ {i : Nat} {y : PgS}, C.ps[i]? = some y → y.P.ver = C.S.deltas.length ∧ y.P.base = C.S.tx C.S.deltas.length ∧ y.P.own = C.S.tx C.S.deltas.length ∧ y.up = [] ∧ y.dn = [] := fun {i y} hi => by
    obtain ⟨q1, q2, q3, q4⟩ := quiet_at hq hi
    have hp := h.c.p i y hi
    have hv := h.emptyDn hi q2
    have hb := hp.b
    rw [hv] at hb
    refine ⟨hv, hb, ?_, q1, q2⟩
    rw [hp.str.o, q3, q4]
    exact hb
  have hnd : (C.S.tx C.S.deltas.length).Nodup := (h.g.tok fun z => tx_le h.c.s z (Nat.le_refl _)).1
  refine ⟨fun y hy => ?_, hnd, fun x hx2 => ⟨(h.g.tok fun z => tx_le h.c.s z (Nat.le_refl _)).2.1 x hx2, ?_⟩, fun x hx2 hn => ?_, fun o row ho => ?_⟩
  · obtain ⟨i, hi⟩ := List.getElem?_of_mem hy
    exact one hi
  · rintro ⟨i, row, h1, h2⟩
    have hi := hx.g _ h1
    have hy : C.ps[i]? = some C.ps[i] := List.getElem?_eq_getElem hi
    refine (h.g.gn i _ row x hy h1 h2).1 ?_
    rw [(one hy).2.2.1]
    exact hx2
  · rcases h.g.al x hx2 hn with q | ⟨i, y, hi, q⟩
    · exact q
    · obtain ⟨q1, q2, q3, q4⟩ := quiet_at hq hi
      unfold flying at q
      rw [q1, q4] at q
      cases q
  · have hr : row.Nodup := nodup_flat (q := (o, row)) h.g.nd ho
    have hs : ∃ (i : Nat) (y : PgS), C.ps[i]? = some y ∧ (o = some i ∨ o = none) := by
      cases o with
      | none => exact ⟨0, _, List.getElem?_eq_getElem h0, .inr rfl⟩
      | some i => exact ⟨i, _, List.getElem?_eq_getElem (hx.r i row ho), .inl rfl⟩
    obtain ⟨i, y, hi, hk⟩ := hs
    have h1 := h.g.or_ o row i y ho hi hk
    rw [(one hi).2.2.1] at h1
    exact sub_filter_eq hr h1 hnd
/-! ## The start -/
def coS0 (t : List Int) (ks : List (PySem.Str × Kd)) : CoS := ⟨⟨[t], [], []⟩, ks.map fun q => ⟨q.1, q.2, psNew 0 t, [], []⟩⟩
def gh0 (t : List Int) : Gh := ⟨[(none, t)], [], 0⟩
theorem coS0_at {t : List Int} {ks : List (PySem.Str × Kd)} {i : Nat} {y : PgS} (h : (coS0 t ks).ps[i]? = some y) : ∃ q, ks[i]? = some q ∧ y = ⟨q.1, q.2, psNew 0 t, [], []⟩ := by
  have h : (ks.map fun q => (⟨q.1, q.2, psNew 0 t, [], []⟩ : PgS))[i]? = some y := h
  rw [List.getElem?_map] at h
  cases e : ks[i]? with
  | none => rw [e] at h; cases h
  | some q =>
    rw [e] at h
    exact ⟨q, rfl, (Option.some.inj h).symm⟩
theorem inv0 {t : List Int} {ks : List (PySem.Str × Kd)} (hk : (ks.map (·.1)).Nodup) (hn : t.Nodup) (hok : ∀ x ∈ t, ChOk x) (hl : t.length ≤ 8) : Inv (coS0 t ks) (gh0 t) := by
  have hseen : (gh0 t).seen = t := by
    show t ++ [] = t
    rw [List.append_nil]
  have hs0 : ∀ z, ((coS0 t ks).ps.map (pend z)).sum = 0 := fun z => by
    show ((ks.map _).map (pend z)).sum = 0
    rw [List.map_map]
    induction ks with
    | nil => rfl
    | cons q ks ih =>
      show 0 + _ = 0
      rw [Nat.zero_add]
      exact ih (by rw [List.map_cons, List.nodup_cons] at hk; exact hk.2)
  have hs1 : ((coS0 t ks).ps.map cE).sum = 0 := by
    show ((ks.map _).map cE).sum = 0
    rw [List.map_map]
    clear hs0
    induction ks with
    | nil => rfl
    | cons q ks ih =>
      show 0 + _ = 0
      rw [Nat.zero_add]
      exact ih (by rw [List.map_cons, List.nodup_cons] at hk; exact hk.2)
  have noG : ∀ z, ¬ Gone (gh0 t) z := fun z => by
    rintro ⟨i, row, h1, _⟩
    cases h1
  refine ⟨⟨⟨rfl, rfl, fun j D h => (by cases h), fun j D h => (by cases h)⟩, fun i y hy => ?_, ?_⟩, ?_⟩
  · obtain ⟨q, _, rfl⟩ := coS0_at hy
    exact ⟨⟨fun s h => (by cases h), fun s h => (by cases h), rfl, trivial⟩, Nat.zero_le _, rfl, rfl, .idle rfl rfl fun j _ h => by cases h⟩
  · unfold coS0
    rw [List.map_map]
    exact hk
  · refine ⟨by rw [hseen]; exact hn, by rw [hseen]; exact hok, by rw [hseen]; exact hl, Nat.zero_le _, fun z => ?_, fun z hz => ⟨t, List.mem_singleton.mpr rfl, hz⟩, fun j D z h => (by cases h), fun i y z hy hz => ?_, fun z hz => absurd hz (noG z), fun i y row z _ hrow => (by cases hrow), fun i y z hy hz => ?_, fun i y m z hy hm => ?_, fun z hz _ => .inl (by rw [hseen] at hz; exact hz), fun o row i y ho hy _ => ?_, ?_, fun y hy => ?_⟩
    · unfold cP
      rw [hs0]
      exact List.nodup_iff_count.mp hn z
    · obtain ⟨q, _, rfl⟩ := coS0_at hy
      cases hz
    · obtain ⟨q, _, rfl⟩ := coS0_at hy
      cases hz
    · obtain ⟨q, _, rfl⟩ := coS0_at hy
      cases hm
    · obtain ⟨q, _, rfl⟩ := coS0_at hy
      obtain ⟨_, rfl⟩ := Prod.mk.inj (List.mem_singleton.mp ho)
      show (row.filter fun x => decide (x ∈ row)).Sublist row
      exact List.filter_sublist
    · rw [hs1]
      exact Nat.le_refl 0
    · obtain ⟨i, hi⟩ := List.getElem?_of_mem hy
      obtain ⟨q, _, rfl⟩ := coS0_at hi
      exact Nat.le_refl 0
theorem gix0 (t : List Int) (n : Nat) : GIx n (gh0 t) := ⟨fun q hq => (by cases hq), fun i row h => by
  have := List.mem_singleton.mp h
  cases (Prod.mk.inj this).1⟩
theorem GIx.edit {n i : Nat} {G : Gh} {cs dd : List Int} (h : GIx n G) (hi : i < n) : GIx n (G.edit i cs dd) := by
  refine ⟨fun q hq => ?_, fun k row hk => ?_⟩
  · rcases List.mem_append.mp hq with e | e
    · exact h.g q e
    · rw [List.mem_singleton.mp e]
      exact hi
  · rcases List.mem_append.mp hk with e | e
    · exact h.r k row e
    · obtain ⟨e1, _⟩ := Prod.mk.inj (List.mem_singleton.mp e)
      rw [Option.some.inj e1]
      exact hi
end Tc
/-! # The walks: settling -/
namespace Tc
open PySem PySem.Spec PyProof.Rows L2
theorem nmk_set {C : CoS} {i : Nat} {x x' : PgS} (hi : C.ps[i]? = some x) (h1 : x'.nm = x.nm) (h2 : x'.k = x.k) : nmk (C.setP i x') = nmk C := map_set_same hi (by rw [h1, h2])
theorem nmk_subm {C : CoS} {i v : Nat} {x : PgS} {D : Dl} {rest : List (Nat × Dl × List Int)} (hi : C.ps[i]? = some x) : nmk (C.subm i x v D rest) = nmk C := by
  unfold nmk
  show ((C.ps.set i { x with up := rest }).map (hear x.nm (C.S.deltas.length + 1) (svLast C.S) (svRe C.S v D))).map (fun x => (x.nm, x.k)) = _
  rw [List.map_map]
  exact map_set_same (f := fun x : PgS => (x.nm, x.k)) hi rfl
theorem nmk_at {C : CoS} {ks : List (Str × Kd)} (h : nmk C = ks) {i : Nat} {q : Str × Kd} (hq : ks[i]? = some q) : ∃ y, C.ps[i]? = some y ∧ y.nm = q.1 ∧ y.k = q.2 := by
  rw [← h] at hq
  unfold nmk at hq
  rw [List.getElem?_map] at hq
  obtain ⟨y, h1, h2⟩ := Option.map_eq_some_iff.mp hq
  exact ⟨y, h1, by rw [← h2], by rw [← h2]⟩
theorem nmk_len {C : CoS} {ks : List (Str × Kd)} (h : nmk C = ks) : C.ps.length = ks.length := by
  rw [← h]
  unfold nmk
  rw [List.length_map]
def nmsV (ks : List (Str × Kd)) : List V := ks.map fun q => V.str q.1
theorem nmv_list {C : CoS} {as : List Addr} (hl : as.length = C.ps.length) : ((nmv C as).map fun kv => kV kv.1) = nmsV (nmk C) := by
  have h := congrArg (List.map kV) (nmv_keys hl)
  rw [List.map_map, List.map_map, List.map_map] at h
  unfold nmsV nmk
  rw [List.map_map]
  exact h
/-- a company, its ghost, and what stood -/
def CoG (c : Cs) (H0 : Hp) (co : Addr) (ks : List (Str × Kd)) (G : Gh) (p : CoS → Prop) (H : Hp) : Prop := ∃ M C r, CoAt c H M co C r ∧ Inv C G ∧ nmk C = ks ∧ Same H0 (Msk H M) ∧ p C
section
variable {c : Cs} {H0 H H' : Hp} {co : Addr} {ks : List (Str × Kd)} {G : Gh} {p q : CoS → Prop}
theorem CoG.grow (h : CoG c H0 co ks G p H) (s : Same H H') : CoG c H0 co ks G p H' := by
  obtain ⟨M, C, r, h1, h2, h3, h4, h5⟩ := h
  exact ⟨M, C, r, h1.grow s, h2, h3, h4.trans (msk_mono s), h5⟩
theorem CoG.imp (h : CoG c H0 co ks G p H) (f : ∀ C, nmk C = ks → Inv C G → p C → q C) : CoG c H0 co ks G q H := by
  obtain ⟨M, C, r, h1, h2, h3, h4, h5⟩ := h
  exact ⟨M, C, r, h1, h2, h3, h4, f C h3 h2 h5⟩
/-- a list of the names, made anew -/
theorem CoG.names {M : List Addr} {C : CoS} {r : CoR} {a : Addr} (hc : CoAt c H M co C r) (hI : Inv C G) (hk : nmk C = ks) (hs : Same H0 (Msk H M)) (hp : p C) (ha : H a = none) :
    ((nmv C (r.pr.map (·.pg))).map fun kv => kV kv.1) = nmsV ks ∧ ∃ I, Same H0 I ∧ I a = some (.lst (nmsV ks)) ∧ CoG c I co ks G p (upd H a (.lst (nmsV ks))) := by
  refine ⟨by rw [nmv_list (by rw [List.length_map]; exact pr_len hc.pg), hk], Msk (upd H a (.lst (nmsV ks))) M, hs.trans (msk_mono (same_upd ha)), ?_, M, C, r, hc.grow (same_upd ha), hI, hk, same_refl, hp⟩
  rw [msk_at fun z => hc.liveM a z ha, upd_same]
theorem CoG.at_ (h : CoG c H0 co ks G p H) {b : Addr} {o : HO} (e : H0 b = some o) : H b = some o := by
  obtain ⟨M, C, r, h1, h2, h3, h4, h5⟩ := h
  exact msk_same _ _ (h4 _ _ e)
end
section
variable {P : Program} {w : World} {K : PySem.W.Frag} {mg : Str → Option Value} {base : Heap} {c : Cs}
/- Company.settle: 0 self, 1 found, 2 name -/
theorem sc_Company_settle : FnScope ["self", "found", "name"] ["self"] (defScope s_Company_settle) := ⟨rfl, rfl, rfl, by decide +kernel, rfl, by decide +kernel, by decide +kernel⟩
theorem bi_Company_settle : BindsB "settle" "Company.settle" s_Company_settle ["self"] := fun _ _ _ _ _ _ us hl => match us, hl with | [_], _ => rfl
def spCoSettle (c : Cs) : Sp := fun vs H Q _ => ∃ (co : Addr) (M : List Addr) (C : CoS) (r : CoR) (G : Gh), vs = [.ref co] ∧ CoAt c H M co C r ∧ Inv C G ∧ C.ps.length ≤ 100 ∧
  ∀ C' v, Inv C' G → quietB C' = true → nmk C' = nmk C → CoTo c H M co C' v Q
theorem ok_Company_settle (T : Txt K mg c) (G_Company_is_quiet : PF P w K mg base 1 c.co "is_quiet" (spCoQuiet c)) (G_Company_send : MF P w K mg base 6 c.co "send" ["self", "name"] [] (spCoSend c)) (G_Company_deliver_up : MF P w K mg base 9 c.co "deliver_up" ["self", "name"] [] (spCoUp c)) (G_Company_deliver_down : MF P w K mg base 10 c.co "deliver_down" ["self", "name"] [] (spCoDown c)) : MF P w K mg base 11 c.co "settle" ["self"] [] (spCoSettle c) := by
  refine T.d_Company_settle.mf sc_Company_settle bi_Company_settle (fun vs H Q E h => ?_) (fun f cdv A outer s H vs Q E hr h => ?_)
  · obtain ⟨co, M, C, r, G, rfl, _⟩ := h
    rfl
  · obtain ⟨co, M, C, r, G, rfl, hc0, hI0, hpl, q⟩ := h
    refine ⟨_, (pss_cons (ps_set (i := 1) sc_Company_settle.nd rfl (Or.inl rfl) pe_int)
      (pss_cons (ps_while PassesOwn.never (pt_not (pt_val (pe_pf G_Company_is_quiet T.cl_co hr (pv 0))))
      (pss_cons (ps_for PassesOwn.never rfl (pi_listN K (pe_callTy (call_listD rfl) (by rfl) T.z_list (by decide +kernel) (pa_cons (pe_fld (pv 0) rfl) pa_nil))) (pg_name (i := 2) sc_Company_settle.nd rfl (Or.inl rfl))
      (pss_cons (ps_expr (pe_mf G_Company_send T.cl_co hr (pv 0) (pa_cons (pv 2) pa_nil)))
      (pss_one (ps_while PassesOwn.never (pt_cmpR (op_neNil hr.units0) (pe_dget (hu1 hr) (pe_fld (pv 0) rfl) (pv 2) (fun _ _ => rfl)) (pe_lst pa_nil) (nomark _))
      (pss_cons (ps_expr (pe_mf G_Company_deliver_up T.cl_co hr (pv 0) (pa_cons (pv 2) pa_nil)))
      (pss_one (ps_aug (i := 1) sc_Company_settle.nd rfl (Or.inl rfl) pe_int ip_add)))))))
      (pss_one (ps_for PassesOwn.never rfl (pi_listN K (pe_callTy (call_listD rfl) (by rfl) T.z_list (by decide +kernel) (pa_cons (pe_fld (pv 0) rfl) pa_nil))) (pg_name (i := 2) sc_Company_settle.nd rfl (Or.inl rfl))
      (pss_one (ps_while PassesOwn.never (pt_cmpR (op_neNil hr.units0) (pe_dget (hu1 hr) (pe_fld (pv 0) rfl) (pv 2) (fun _ _ => rfl)) (pe_lst pa_nil) (nomark _))
      (pss_cons (ps_expr (pe_mf G_Company_deliver_down T.cl_co hr (pv 0) (pa_cons (pv 2) pa_nil)))
      (pss_one (ps_aug (i := 1) sc_Company_settle.nd rfl (Or.inl rfl) pe_int ip_add)))))))))
      (pss_one (ps_ret (pv 1))))), ?_⟩
    generalize hks : nmk C = ks at q
    have hkl : ks.length ≤ 100 := by rw [← nmk_len hks]; exact hpl
    refine seq_join (fun σ H1 => σ = [some (.ref co), some (.int 0), none] ∧ H1 = H) (fun N hN => hN _ _ ⟨rfl, rfl⟩) ?_
    rintro σ H1 ⟨rfl, rfl⟩
    rename Hp => H
    refine seq_join (fun σ H1 => ∃ f v2, σ = [some (.ref co), some (.int f), v2] ∧ CoG c (Msk H M) co ks G (fun C => quietB C = true) H1) (fun N hN => ?_) ?_
    · refine ⟨fun m σ H1 => ∃ f v2, σ = [some (.ref co), some (.int f), v2] ∧ CoG c (Msk H M) co ks G (fun C => (m = 2) ∨ (m = 1 ∧ Calm C) ∨ (m = 0 ∧ quietB C = true)) H1, ⟨2, 0, none, rfl, M, C, r, hc0, hI0, hks, same_refl, .inl rfl⟩, ?_⟩
      rintro m σ H1 ⟨f, v2, rfl, hg⟩
      obtain ⟨M1, C1, r1, hc1, hI1, hk1, hs1, hm⟩ := hg
      refine ⟨_, rfl, co, r1.dx, _, rfl, hc1.ins, co, M1, C1, r1, rfl, hc1, fun H2 s2 => ⟨quietB C1, rfl, ?_⟩⟩
      cases hq : quietB C1 with
      | true => exact iteF (hN _ _ ⟨f, v2, rfl, M1, C1, r1, hc1.grow s2, hI1, hk1, hs1.trans (msk_mono s2), hq⟩)
      | false =>
        refine iteT ?_
        -- what this turn brings
        have hm2 : ∃ cal : Bool, (cal = true → Calm C1) ∧ (m = if cal then 1 else 2) := by
          rcases hm with e | ⟨e, hcal⟩ | ⟨_, e⟩
          · exact ⟨false, fun z => (by cases z), e⟩
          · exact ⟨true, fun _ => hcal, e⟩
          · rw [hq] at e; cases e
        obtain ⟨cal, hcal, hme⟩ := hm2
        refine ⟨fun σ H' => ∃ f v2, σ = [some (.ref co), some (.int f), v2] ∧ CoG c (Msk H M) co ks G (fun C => Calm C ∧ (cal = true → quietB C = true)) H', ?_, ?_⟩
        · rintro σ' H' ⟨f', v2', rfl, hg'⟩
          cases cal with
          | true =>
            exact ⟨0, by rw [hme]; decide, f', v2', rfl, hg'.imp fun C _ _ z => .inr (.inr ⟨rfl, z.2 rfl⟩)⟩
          | false =>
            exact ⟨1, by rw [hme]; decide, f', v2', rfl, hg'.imp fun C _ _ z => .inr (.inl ⟨rfl, z.1⟩)⟩
        have hg2 : CoG c (Msk H M) co ks G (Ra cal 0) H2 := ⟨M1, C1, r1, hc1.grow s2, hI1, hk1, hs1.trans (msk_mono s2), Ra.start hcal⟩
        clear hq hm hc1 hI1 hk1 hs1 hme hcal s2
        refine seq_join (fun σ H3 => ∃ f v2, σ = [some (.ref co), some (.int f), v2] ∧ CoG c (Msk H M) co ks G (Rb cal 0) H3) (fun N2 hN2 => ?_) ?_
        · obtain ⟨M2, C2, r2, hc2, hI2, hk2, hs2, hp2⟩ := hg2
          refine ⟨_, rfl, co, c.co, r2.dx, _, .ref r2.dp, rfl, hc2.ins, T.cl_co, T.n_co_programs, rfl, r2.dp, _, rfl, .inl hc2.dp, fun a hna => ⟨a, rfl, ⟨_, SqL.of upd_same⟩, ?_⟩⟩
          obtain ⟨el, I, sI, ha, hg3⟩ := CoG.names hc2 hI2 hk2 hs2 hp2 hna
          rw [el]
          refine for_list (K := K) (a := a) (xs := nmsV ks) (fun i σ H4 => ∃ f v2, σ = [some (.ref co), some (.int f), v2] ∧ CoG c I co ks G (Ra cal i) H4) ⟨f, v2, rfl, hg3⟩ ?_ ?_ ?_
          · rintro i σ H4 _ ⟨f, v2, rfl, hg4⟩
            exact SqL.of (hg4.at_ ha)
          · rintro i x σ H4 hx ⟨f, v2, rfl, hg4⟩
            obtain ⟨qk, hqk, rfl⟩ := lmap_at hx
            obtain ⟨M4, C4, r4, hc4, hI4, hk4, hs4, hp4⟩ := hg4
            obtain ⟨y, hy, hnm, hkd⟩ := nmk_at hk4 hqk
            refine seq_join (fun σ H5 => σ = [some (.ref co), some (.int f), some (.str qk.1)] ∧ CoG c I co ks G (Rai cal i) H5) (fun N3 hN3 => ?_) ?_
            · refine ⟨_, rfl, co, r4.dx, _, rfl, hc4.ins, rfl, _, rfl, co, M4, C4, r4, y, i, by rw [hnm]; rfl, hc4, hy, hI4.psOk hy, by have := hI4.upLen hy; omega, fun hno H' M' r' s' h' => ?_, fun W hW hS H' M' r' s' h' => ?_⟩
              · exact hN3 _ _ ⟨rfl, M', C4, r', h', hI4, hk4, hs4.trans s', hp4.stay hy hno⟩
              · exact hN3 _ _ ⟨rfl, M', _, r', h', hI4.send hy hW hS, (by rw [nmk_set hy (by rfl) (by rfl)]; exact hk4), hs4.trans s', hp4.sent hy rfl⟩
            rintro σ H5 ⟨rfl, hg5⟩
            refine ⟨fun m σ H6 => ∃ f, σ = [some (.ref co), some (.int f), some (.str qk.1)] ∧ CoG c I co ks G (fun C => Rai cal i C ∧ ∀ y, C.ps[i]? = some y → y.up.length = m) H6, ?_, ?_⟩
            · obtain ⟨M5, C5, r5, hc5, hI5, hk5, hs5, hp5⟩ := hg5
              obtain ⟨y5, hy5, _, _⟩ := nmk_at hk5 hqk
              exact ⟨y5.up.length, f, rfl, M5, C5, r5, hc5, hI5, hk5, hs5, hp5, fun z hz => by rw [Option.some.inj (hz.symm.trans hy5)]⟩
            rintro m σ H6 ⟨f, rfl, M6, C6, r6, hc6, hI6, hk6, hs6, hp6, hm6⟩
            obtain ⟨y6, hy6, hnm6, hkd6⟩ := nmk_at hk6 hqk
            obtain ⟨p6, hp6r, hpg6⟩ := hc6.at_ hy6
            obtain ⟨us, hu1, hu2⟩ := hpg6.us
            have hgu := hc6.gu hy6 hp6r
            rw [hnm6] at hgu
            refine ⟨_, rfl, co, c.co, r6.dx, _, .ref r6.du, rfl, hc6.ins, T.cl_co, T.n_co_ups, rfl, _, rfl, r6.du, _, rfl, hgu, lk 0 (by decide), fun e he => ⟨p6.up, e, us.map V.ref, rfl, rfl, SqL.of ((same_upd he) _ _ hu1), SqL.of upd_same, ?_⟩⟩
            have hc7 := hc6.grow (same_upd (o := .lst []) he)
            have hs7 := hs6.trans (msk_mono (M := M6) (same_upd (o := .lst []) he))
            refine ⟨_, rfl, ?_⟩
            rw [isE (m := y6.up) (by rw [List.length_map]; exact pr_len hu2)]
            cases hup : y6.up with
            | nil => exact iteF ⟨f, _, rfl, M6, C6, r6, hc7, hI6, hk6, hs7, hp6.next hy6 hup⟩
            | cons msg rest =>
              obtain ⟨v, D, t⟩ := msg
              obtain ⟨u1, u2, u3, u4⟩ := hI6.upOk hy6 hup
              subst u1
              refine iteT ⟨fun σ H7 => ∃ f, σ = [some (.ref co), some (.int f), some (.str qk.1)] ∧ CoG c I co ks G (fun C => Rai cal i C ∧ ∀ y, C.ps[i]? = some y → y.up.length = 0) H7, fun σ' H' z => ⟨0, by rw [← hm6 y6 hy6, hup]; exact Nat.zero_lt_one, z⟩, ?_⟩
              refine ⟨_, rfl, co, r6.dx, _, rfl, hc7.ins, rfl, _, rfl, co, M6, C6, r6, y6, i, v, D, t, [], by rw [hnm6]; rfl, hc7, hy6, hI6.svOk, by have := hI6.len; omega, by rw [nmk_len hk6]; exact hkl, hI6.dnLen, hup, u2, u3, u4, fun H' M' r' s' h' => ?_⟩
              refine ⟨_, rfl, _, _, rfl, rfl, f + 1, rfl, M', _, r', h', hI6.subm hy6 hup, (nmk_subm hy6).trans hk6, hs7.trans s', hp6.subm hy6, fun z hz => ?_⟩
              obtain ⟨z2, hz2, ⟨_, rfl, rfl⟩ | ⟨hne, _⟩⟩ := subm_at hy6 hz
              · rfl
              · exact absurd rfl hne
          · rintro σ H4 ⟨f, v2, rfl, M4, C4, r4, hc4, hI4, hk4, hs4, hp4⟩
            have el : (nmsV ks).length = C4.ps.length := by
              unfold nmsV
              rw [List.length_map, nmk_len hk4]
            rw [el] at hp4
            exact hN2 _ _ ⟨f, v2, rfl, M4, C4, r4, hc4, hI4, hk4, sI.trans hs4, hp4.all⟩
        rintro σ H3 ⟨f, v2, rfl, hg3⟩
        obtain ⟨M2, C2, r2, hc2, hI2, hk2, hs2, hp2⟩ := hg3
        refine ⟨_, rfl, co, c.co, r2.dx, _, .ref r2.dp, rfl, hc2.ins, T.cl_co, T.n_co_programs, rfl, r2.dp, _, rfl, .inl hc2.dp, fun a hna => ⟨a, rfl, ⟨_, SqL.of upd_same⟩, ?_⟩⟩
        obtain ⟨el, I, sI, ha, hg4⟩ := CoG.names hc2 hI2 hk2 hs2 hp2 hna
        rw [el]
        refine for_list (K := K) (a := a) (xs := nmsV ks) (fun i σ H4 => ∃ f v2, σ = [some (.ref co), some (.int f), v2] ∧ CoG c I co ks G (Rb cal i) H4) ⟨f, v2, rfl, hg4⟩ ?_ ?_ ?_
        · rintro i σ H4 _ ⟨f, v2, rfl, hg4⟩
          exact SqL.of (hg4.at_ ha)
        · rintro i x σ H4 hx ⟨f, v2, rfl, hg4⟩
          obtain ⟨qk, hqk, rfl⟩ := lmap_at hx
          refine ⟨fun m σ H6 => ∃ f, σ = [some (.ref co), some (.int f), some (.str qk.1)] ∧ CoG c I co ks G (fun C => Rb cal i C ∧ ∀ y, C.ps[i]? = some y → y.dn.length = m) H6, ?_, ?_⟩
          · obtain ⟨M5, C5, r5, hc5, hI5, hk5, hs5, hp5⟩ := hg4
            obtain ⟨y5, hy5, _, _⟩ := nmk_at hk5 hqk
            exact ⟨y5.dn.length, f, rfl, M5, C5, r5, hc5, hI5, hk5, hs5, hp5, fun z hz => by rw [Option.some.inj (hz.symm.trans hy5)]⟩
          rintro m σ H6 ⟨f, rfl, M6, C6, r6, hc6, hI6, hk6, hs6, hp6, hm6⟩
          obtain ⟨y6, hy6, hnm6, hkd6⟩ := nmk_at hk6 hqk
          obtain ⟨p6, hp6r, hpg6⟩ := hc6.at_ hy6
          obtain ⟨ds, hd1, hd2⟩ := hpg6.ds
          have hgd := hc6.gd hy6 hp6r
          rw [hnm6] at hgd
          refine ⟨_, rfl, co, c.co, r6.dx, _, .ref r6.dd, rfl, hc6.ins, T.cl_co, T.n_co_downs, rfl, _, rfl, r6.dd, _, rfl, hgd, lk 0 (by decide), fun e he => ⟨p6.dn, e, ds.map V.ref, rfl, rfl, SqL.of ((same_upd he) _ _ hd1), SqL.of upd_same, ?_⟩⟩
          have hc7 := hc6.grow (same_upd (o := .lst []) he)
          have hs7 := hs6.trans (msk_mono (M := M6) (same_upd (o := .lst []) he))
          refine ⟨_, rfl, ?_⟩
          rw [isE (m := y6.dn) (by rw [List.length_map]; exact pr_len hd2)]
          cases hdn : y6.dn with
          | nil => exact iteF ⟨f, _, rfl, M6, C6, r6, hc7, hI6, hk6, hs7, hp6.next hy6 hdn⟩
          | cons msg rest =>
            obtain ⟨d1, d2, d3⟩ := hI6.downOk hy6 hdn
            have hml : m = rest.length + 1 := by rw [← hm6 y6 hy6, hdn]; rfl
            refine iteT ⟨fun σ H7 => ∃ f, σ = [some (.ref co), some (.int f), some (.str qk.1)] ∧ CoG c I co ks G (fun C => Rb cal i C ∧ ∀ y, C.ps[i]? = some y → y.dn.length = rest.length) H7, fun σ' H' z => ⟨rest.length, by omega, z⟩, ?_⟩
            refine ⟨_, rfl, co, r6.dx, _, rfl, hc7.ins, rfl, _, rfl, co, M6, C6, r6, y6, i, msg.2.2, rest, by rw [hnm6]; rfl, hc7, hy6, hI6.psOk hy6, d2, d1, d3, fun mv H' M' r' s' h' => ?_⟩
            refine ⟨_, rfl, _, _, rfl, rfl, f + 1, rfl, M', _, r', h', hI6.recv hy6 hdn, (by rw [nmk_set hy6 (by rfl) (by rfl)]; exact hk6), hs7.trans s', hp6.recv hy6, fun z hz => ?_⟩
            rcases setP_at hy6 hz with ⟨_, rfl⟩ | ⟨hne, _⟩
            · rfl
            · exact absurd rfl hne
        · rintro σ H4 ⟨f, v2, rfl, M4, C4, r4, hc4, hI4, hk4, hs4, hp4⟩
          have el : (nmsV ks).length = C4.ps.length := by
            unfold nmsV
            rw [List.length_map, nmk_len hk4]
          rw [el] at hp4
          exact ⟨f, v2, rfl, M4, C4, r4, hc4, hI4, hk4, sI.trans hs4, hp4.calm hI4, fun e => by rw [e] at hp4; exact hp4.quiet hI4⟩
    rintro σ H1 ⟨f, v2, rfl, M1, C1, r1, hc1, hI1, hk1, hs1, hq1⟩
    exact ⟨_, rfl, q C1 _ hI1 hq1 hk1 _ _ _ hs1 hc1⟩
end
end Tc
/-! # The walks: the law's small helpers -/
namespace Tc
open PySem PySem.Spec PyProof.Rows L2
theorem hu64 {k : Nat} {A : Around} (r : Room k A) : A.units + 64 < cLine := by have := r.un; omega
theorem eqvAll_ints : ∀ ns ms : List Int, PyData.eqvAll (ns.map PyData.int) (ms.map PyData.int) = decide (ns = ms)
  | [], [] => by simp [PyData.eqvAll]
  | [], _ :: _ => by simp [PyData.eqvAll]
  | _ :: _, [] => by simp [PyData.eqvAll]
  | a :: r, b :: t => by
    simp only [List.map_cons, PyData.eqvAll, PyData.eqv, eqvAll_ints r t]
    by_cases h : a = b <;> by_cases h' : r = t <;> simp [h, h']
theorem eqv_ints (ns ms : List Int) : PyData.eqv (.list (ns.map PyData.int)) (.list (ms.map PyData.int)) = decide (ns = ms) := by
  simp only [PyData.eqv]
  exact eqvAll_ints ns ms
theorem dp_all {K : PySem.W.Frag} {H : Hp} : ∀ ns : List Int, DpAll K H (ns.map V.int) (ns.map PyData.int)
  | [] => .nil
  | n :: ns => .cons (.int n) (dp_all ns)
theorem dp_ints {K : PySem.W.Frag} {H : Hp} {a : Addr} {ns : List Int} (h : LAt H a ns) : Dp K H (.ref a) (.list (ns.map PyData.int)) := .lst (SqL.of h) (dp_all ns)
theorem inV_ints (x : Int) (t : List Int) : inV (.int x) (t.map V.int) = decide (x ∈ t) := by
  unfold inV
  induction t with
  | nil => simp
  | cons a r ih =>
    rw [List.map_cons, List.any_cons, ih]
    show ((a == x) || _) = _
    by_cases h : a = x
    · subst h
      simp
    · have h2 : (a == x) = false := beq_false_of_ne h
      rw [h2, Bool.false_or]
      refine decide_eq_decide.mpr ⟨fun z => List.mem_cons_of_mem _ z, fun z => ?_⟩
      rcases List.mem_cons.mp z with e | e
      · exact absurd e.symm h
      · exact e
theorem flat_ints (t : List Int) : (t.map V.int).all flatV = true := by
  rw [List.all_map, List.all_eq_true]
  intro x _
  rfl
/-- [x for x in a if p x] -/
theorem flt_it {K : PySem.W.Frag} {a : Addr} {t : List Int} (p : Int → Bool) {i : Nat} {tt : TT} {σ : L2.St} {H : Hp} {D : Addr} {Qd : Hp → Prop} (ha : LAt H a t) (hD : H D = none) (hi : i < σ.length) (ht : t.length ≤ 100000)
    (hs : ∀ (x : Int) (H1 : Hp) (R : Bool → Hp → Prop), x ∈ t → Same H H1 → (∀ H2, Same H1 H2 → R (p x) H2) → tt ((wipe σ [i]).set i (some (.int x))) H1 R)
    (hd : ∀ H1, Same H H1 → H1 D = some (.lst ((t.filter p).map V.int)) → Qd H1) :
    ∃ W : Nat → Nat → Hp → Prop, (∃ m, W 0 m (upd H D (.lst []))) ∧ ∀ i' m H, W i' m H →
      ((Itl K a).stop i' H ∧ Qd H) ∨ ((Itl K a).go i' H ∧ ∃ Nx : Hp → Prop, (∀ H', Nx H' → ∃ m', m' < m ∧ W (i' + 1) m' H') ∧ ∀ x H', (Itl K a).yld i' H x H' → gName i x (wipe σ [i]) H' fun σ2 H2 => wipe σ2 [i] = wipe σ [i] ∧ tt σ2 H2 fun b H3 =>
        if b = true then tVar i σ2 H3 fun y H4 => ∃ acc, H4 D = some (.lst acc) ∧ acc.length < sizeLine ∧ Nx (upd H4 D (.lst (acc ++ [y]))) else Nx H3) := by
  refine lc_list (K := K) (a := a) (xs := t.map V.int) (fun j H1 => Same H H1 ∧ H1 D = some (.lst (((t.take j).filter p).map V.int))) ⟨same_upd hD, upd_same⟩ (fun j H1 _ z => SqL.of (z.1 _ _ ha)) ?_ ?_
  · rintro j y H1 hy ⟨s1, h1⟩
    obtain ⟨x, hx, rfl⟩ := map_at_int hy
    have hl : i < (wipe σ [i]).length := by rw [wipe_length]; exact hi
    refine ⟨?_, hs x H1 _ (List.mem_of_getElem? hx) s1 fun H2 s2 => ?_⟩
    · show (((σ.set i none).set i (some (.int x))).set i none) = σ.set i none
      rw [List.set_set, List.set_set]
    have e : (t.take (j + 1)).filter p = (t.take j).filter p ++ (if p x = true then [x] else []) := by
      rw [take_snoc hx, List.filter_append]
      congr 1
      by_cases hp : p x = true
      · rw [if_pos hp, List.filter_cons_of_pos hp]
        rfl
      · rw [if_neg hp, List.filter_cons_of_neg hp]
        rfl
    cases hp : p x with
    | true =>
      rw [hp, if_pos rfl] at e
      refine iteT ⟨.int x, List.getElem?_set_self hl, _, s2 _ _ h1, szlt _ ?_, same_mut (s1.trans s2) hD, ?_⟩
      · rw [List.length_map]
        have h3 := List.length_filter_le p (t.take j)
        have h4 : (t.take j).length ≤ t.length := by rw [List.length_take]; omega
        omega
      · rw [upd_same, e, List.map_append]
        rfl
    | false =>
      rw [hp, if_neg Bool.false_ne_true, List.append_nil] at e
      refine iteF ⟨s1.trans s2, ?_⟩
      rw [e]
      exact s2 _ _ h1
  · rintro H1 ⟨s1, h1⟩
    rw [List.length_map, List.take_length] at h1
    exact hd H1 s1 h1
/-- the bag's own record -/
def BagO (k : Nat) (o : HO) : Prop := ∃ z y j : Int, o = .lst [.int z, .int y, .int j] ∧ (0 ≤ y ∧ y < 2147483629) ∧ 0 ≤ j ∧ j ≤ (k : Int)
def BagAt (H : Hp) (b : Addr) (k : Nat) : Prop := ∃ o, H b = some o ∧ BagO k o
theorem BagO.mono {k k' : Nat} {o : HO} (h : BagO k o) (le : k ≤ k') : BagO k' o := by
  obtain ⟨z, y, j, h1, h2, h3, h4⟩ := h
  exact ⟨z, y, j, h1, h2, h3, by omega⟩
def fresh (n : Nat) : Int := ([200, 9000, 70000, 40] : List Int).getD (n % 4) 0 + ((n / 4 : Nat) : Int)
theorem fresh_eq (n : Nat) : (n % 4 = 0 ∧ fresh n = 200 + ((n / 4 : Nat) : Int)) ∨ (n % 4 = 1 ∧ fresh n = 9000 + ((n / 4 : Nat) : Int)) ∨ (n % 4 = 2 ∧ fresh n = 70000 + ((n / 4 : Nat) : Int)) ∨ (n % 4 = 3 ∧ fresh n = 40 + ((n / 4 : Nat) : Int)) := by
  have h : n % 4 < 4 := Nat.mod_lt _ (by decide)
  unfold fresh
  generalize hr : n % 4 = r at *
  match r, h with
  | 0, _ => exact .inl ⟨rfl, rfl⟩
  | 1, _ => exact .inr (.inl ⟨rfl, rfl⟩)
  | 2, _ => exact .inr (.inr (.inl ⟨rfl, rfl⟩))
  | 3, _ => exact .inr (.inr (.inr ⟨rfl, rfl⟩))
theorem fresh_inj {n m : Nat} (hn : n ≤ 100) (hm : m ≤ 100) (h : fresh n = fresh m) : n = m := by
  have h1 := fresh_eq n
  have h2 := fresh_eq m
  omega
theorem fresh_ok {n : Nat} (hn : n ≤ 100) : ChOk (fresh n) := by
  have h1 := fresh_eq n
  unfold ChOk
  omega
section
variable {P : Program} {w : World} {K : PySem.W.Frag} {mg : Str → Option Value} {base : Heap} {c : Cs}
/- _law_cell: 0 _law_script, 1 _law_index -/
theorem sc_l_cell : FnScope ["_law_script", "_law_index"] ["_law_script", "_law_index"] (defScope s_l_cell) := ⟨rfl, rfl, rfl, by decide +kernel, rfl, by decide +kernel, by decide +kernel⟩
theorem bi_l_cell : BindsB "_law_cell" "_law_cell" s_l_cell ["_law_script", "_law_index"] := fun _ _ _ _ _ _ us hl => match us, hl with | [_, _], _ => rfl
def spLCell (K : PySem.W.Frag) : Sp := fun vs H Q _ => ∃ (a : Addr) (ns : List Int) (i : Nat), vs = [.ref a, .int i] ∧ SqL K H a (ns.map V.int) ∧ i ≤ 1000 ∧ ∀ z : Int, Q (.int z) H
theorem ok_l_cell (T : Txt K mg c) : GF P w K mg base 1 "_law_cell" ["_law_script", "_law_index"] (spLCell K) := by
  refine T.d_l_cell.gf sc_l_cell bi_l_cell (fun vs H Q E h => ?_) (fun f cdv A outer s H vs Q E hr h => ?_)
  · obtain ⟨a, ns, i, rfl, _⟩ := h
    rfl
  · obtain ⟨a, ns, i, rfl, ha, hi, q⟩ := h
    refine ⟨_, (pss_cons (ps_if (pt_cmpR op_lt (pv 1) (pe_callB call_len_seq (by rfl) T.z_len (by decide +kernel) (pa_cons (pv 0) pa_nil)) (nomark _)) (pss_one (ps_ret (pe_ix ix_list (pv 0) (pv 1) (fun _ _ => rfl)))) pss_nil)
      (pss_one (ps_ret (pe_op op_add (pe_op op_mul pe_int (pv 1)) pe_int)))), ?_⟩
    refine ⟨_, rfl, _, rfl, a, _, rfl, .inl ha, _, _, rfl, rfl, _, rfl, ?_⟩
    by_cases hlt : i < ns.length
    · rw [decide_eq_true (show (i : Int) < (((ns.map V.int).length : Nat) : Int) by rw [List.length_map]; omega)]
      refine iteT ⟨_, rfl, _, rfl, a, _, (i : Int), .int ns[i], rfl, rfl, ha, atI_of (by rw [List.getElem?_map, List.getElem?_eq_getElem hlt]; rfl), q _⟩
    · rw [decide_eq_false (show ¬ (i : Int) < (((ns.map V.int).length : Nat) : Int) by rw [List.length_map]; omega)]
      exact iteF ⟨_, rfl, _, _, rfl, rfl, .inl (by decide), _, _, rfl, rfl, q _⟩
/- _law_bag: 0 _law_cell_here -/
theorem sc_l_bag : FnScope ["_law_cell_here"] ["_law_cell_here"] (defScope s_l_bag) := ⟨rfl, rfl, rfl, by decide +kernel, rfl, by decide +kernel, by decide +kernel⟩
theorem bi_l_bag : BindsB "_law_bag" "_law_bag" s_l_bag ["_law_cell_here"] := fun _ _ _ _ _ _ us hl => match us, hl with | [_], _ => rfl
def spLBag : Sp := fun vs H Q _ => ∃ z : Int, vs = [.int z] ∧ ∀ p o, H p = none → BagO 0 o → Q (.ref p) (upd H p o)
theorem ok_l_bag (T : Txt K mg c) : GF P w K mg base 1 "_law_bag" ["_law_cell_here"] spLBag := by
  refine T.d_l_bag.gf sc_l_bag bi_l_bag (fun vs H Q E h => ?_) (fun f cdv A outer s H vs Q E hr h => ?_)
  · obtain ⟨z, rfl, _⟩ := h
    rfl
  · obtain ⟨z, rfl, q⟩ := h
    refine ⟨_, (pss_one (ps_ret (pe_lst (pa_cons (pe_callB (call_max2 rfl) (by rfl) T.z_max (by decide +kernel) (pa_cons pe_int (pa_cons (pe_op op_sub (pv 0) (pe_op op_pow pe_int pe_int)) pa_nil))) (pa_cons (pe_op op_modN (pv 0) pe_int) (pa_cons pe_int pa_nil)))))), ?_⟩
    refine ⟨_, rfl, _, _, rfl, rfl, ⟨by decide, by decide, by decide⟩, _, _, rfl, rfl, _, _, rfl, _, rfl, _, _, rfl, rfl, (show (2147483629 : Int) ≠ 0 by decide), lk 3 (by decide), fun p hp => q p _ hp ⟨_, _, _, rfl, ?_, by decide, by decide⟩⟩
    have h1 := Int.fmod_nonneg_of_pos z (show (0 : Int) < 2147483629 by decide)
    have h2 := Int.fmod_lt_of_pos z (show (0 : Int) < 2147483629 by decide)
    exact ⟨h1, h2⟩
/- _law_take: 0 _law_bag_here, 1 _law_many, 2 _law_digit, 3 _law_mixed -/
theorem sc_l_take : FnScope ["_law_bag_here", "_law_many", "_law_digit", "_law_mixed"] ["_law_bag_here", "_law_many"] (defScope s_l_take) := ⟨rfl, rfl, rfl, by decide +kernel, rfl, by decide +kernel, by decide +kernel⟩
theorem bi_l_take : BindsB "_law_take" "_law_take" s_l_take ["_law_bag_here", "_law_many"] := fun _ _ _ _ _ _ us hl => match us, hl with | [_, _], _ => rfl
def spLTake : Sp := fun vs H Q _ => ∃ (b : Addr) (n k : Nat), vs = [.ref b, .int n] ∧ BagAt H b k ∧ 1 ≤ n ∧ n ≤ 1000 ∧ k ≤ 1000000 ∧ ∀ (d : Nat) (o : HO), d < n → BagO (k + 1) o → Q (.int d) (upd H b o)
theorem ok_l_take (T : Txt K mg c) : GF P w K mg base 1 "_law_take" ["_law_bag_here", "_law_many"] spLTake := by
  refine T.d_l_take.gf sc_l_take bi_l_take (fun vs H Q E h => ?_) (fun f cdv A outer s H vs Q E hr h => ?_)
  · obtain ⟨b, n, k, rfl, _⟩ := h
    rfl
  · obtain ⟨b, n, k, rfl, ⟨o, hb, z, y, j, rfl, ⟨hy1, hy2⟩, hj1, hj2⟩, hn1, hn2, hk, q⟩ := h
    refine ⟨_, (pss_cons (ps_if (pt_cmpR op_gt (pe_ix ix_list (pv 0) pe_int (fun _ _ => rfl)) pe_int (nomark _)) (pss_cons (ps_set (i := 2) sc_l_take.nd rfl (Or.inl rfl) (pe_op op_modN (pe_ix ix_list (pv 0) pe_int (fun _ _ => rfl)) (pv 1)))
      (pss_cons (ps_asg (pe_op op_fdivN (pe_ix ix_list (pv 0) pe_int (fun _ _ => rfl)) (pv 1)) (pg_sub (pv 0) pe_int set_list))
      (pss_one (ps_ret (pv 2))))) pss_nil)
      (pss_cons (ps_asg (pe_op op_add (pe_ix ix_list (pv 0) pe_int (fun _ _ => rfl)) pe_int) (pg_sub (pv 0) pe_int set_list))
      (pss_cons (ps_set (i := 3) sc_l_take.nd rfl (Or.inl rfl) (pe_op op_modN (pe_op op_pow (pe_op op_add (pe_op op_add (pe_ix ix_list (pv 0) pe_int (fun _ _ => rfl)) (pe_op op_mul pe_int (pe_ix ix_list (pv 0) pe_int (fun _ _ => rfl)))) pe_int) pe_int) pe_int))
      (pss_cons (ps_set (i := 3) sc_l_take.nd rfl (Or.inl rfl) (pe_op op_modN (pe_op op_pow (pe_op op_add (pv 3) (pe_op op_mul pe_int (pe_ix ix_list (pv 0) pe_int (fun _ _ => rfl)))) pe_int) pe_int))
      (pss_one (ps_ret (pe_op op_modN (pe_op op_fdivN (pv 3) pe_int) (pv 1)))))))), ?_⟩
    have hn : (0 : Int) < (n : Int) := by omega
    have dig : ∀ x : Int, ∃ d : Nat, d < n ∧ x.fmod (n : Int) = (d : Int) := fun x => by
      have h1 := Int.fmod_nonneg_of_pos x hn
      have h2 := Int.fmod_lt_of_pos x hn
      exact ⟨(x.fmod n).toNat, by omega, by omega⟩
    refine seq_join (fun σ H1 => σ = [some (.ref b), some (.int n), none, none] ∧ H1 = H) (fun N hN => ?_) ?_
    · refine ⟨_, rfl, b, _, 0, .int z, rfl, rfl, SqL.of hb, rfl, _, _, rfl, rfl, _, rfl, ?_⟩
      by_cases hz : 0 < z
      · rw [decide_eq_true (show z > 0 from hz)]
        obtain ⟨d, hd, ed⟩ := dig z
        refine iteT (seq_join (fun σ H1 => σ = [some (.ref b), some (.int n), some (.int d), none] ∧ H1 = H) (fun N hN => ⟨_, rfl, b, _, 0, .int z, rfl, rfl, SqL.of hb, rfl, _, rfl, _, _, rfl, rfl, (show (n : Int) ≠ 0 by omega), hN _ _ ⟨by rw [← ed]; rfl, rfl⟩⟩) ?_)
        rintro σ H1 ⟨rfl, rfl⟩
        exact ⟨_, rfl, b, _, 0, .int z, rfl, rfl, SqL.of hb, rfl, _, rfl, _, _, rfl, rfl, ⟨by omega, by omega⟩, _, rfl, b, _, 0, 0, rfl, rfl, hb, rfl, _, rfl, q d _ hd ⟨_, y, j, rfl, ⟨hy1, hy2⟩, hj1, by omega⟩⟩
      · rw [decide_eq_false (show ¬ z > 0 from hz)]
        exact iteF (hN _ _ ⟨rfl, rfl⟩)
    rintro σ H1 ⟨rfl, rfl⟩
    refine seq_join (fun σ H2 => σ = [some (.ref b), some (.int n), none, none] ∧ H2 = upd H1 b (.lst [.int z, .int y, .int (j + 1)])) (fun N hN => ⟨_, rfl, b, _, 2, .int j, rfl, rfl, SqL.of hb, rfl, _, _, rfl, rfl, _, rfl, b, _, 2, 2, rfl, rfl, hb, rfl, hN _ _ ⟨rfl, rfl⟩⟩) ?_
    rintro σ H2 ⟨rfl, rfl⟩
    rename Hp => H
    have hb2 : upd H b (.lst [.int z, .int y, .int (j + 1)]) b = some (.lst [.int z, .int y, .int (j + 1)]) := upd_same
    have m1 : ∀ x : Int, 0 ≤ x.fmod 2147483647 ∧ x.fmod 2147483647 < 2147483647 := fun x => ⟨Int.fmod_nonneg_of_pos x (by decide), Int.fmod_lt_of_pos x (by decide)⟩
    refine seq_join (fun σ H1 => ∃ m : Int, σ = [some (.ref b), some (.int n), none, some (.int m)] ∧ (0 ≤ m ∧ m < 2147483647) ∧ H1 = upd H b (.lst [.int z, .int y, .int (j + 1)])) (fun N hN => ?_) ?_
    · exact ⟨_, rfl, b, _, 1, .int y, rfl, rfl, SqL.of hb2, rfl, _, rfl, b, _, 2, .int (j + 1), rfl, rfl, SqL.of hb2, rfl, _, _, rfl, rfl, .inl (by decide), _, _, rfl, rfl, _, _, rfl, rfl, _, _, rfl, rfl, ⟨by decide, by decide, by omega⟩, _, _, rfl, rfl, (show (2147483647 : Int) ≠ 0 by decide), hN _ _ ⟨_, rfl, m1 _, rfl⟩⟩
    rintro σ H1 ⟨m, rfl, hm, rfl⟩
    refine seq_join (fun σ H1 => ∃ m : Int, σ = [some (.ref b), some (.int n), none, some (.int m)] ∧ H1 = upd H b (.lst [.int z, .int y, .int (j + 1)])) (fun N hN => ?_) ?_
    · exact ⟨_, rfl, _, rfl, b, _, 2, .int (j + 1), rfl, rfl, SqL.of hb2, rfl, _, _, rfl, rfl, .inl (by decide), _, _, rfl, rfl, _, _, rfl, rfl, ⟨by decide, by decide, by omega⟩, _, _, rfl, rfl, (show (2147483587 : Int) ≠ 0 by decide), hN _ _ ⟨_, rfl, rfl⟩⟩
    rintro σ H1 ⟨m2, rfl, rfl⟩
    obtain ⟨d, hd, ed⟩ := dig (m2.fdiv 16)
    have := q d _ hd ⟨z, y, j + 1, rfl, ⟨hy1, hy2⟩, by omega, by omega⟩
    rw [← ed] at this
    exact ⟨_, rfl, _, _, rfl, rfl, ⟨by decide, by decide⟩, _, rfl, _, _, rfl, rfl, (show (n : Int) ≠ 0 by omega), this⟩
/- _law_width: 0 _law_char, 1 _law_kind -/
theorem sc_l_width : FnScope ["_law_char", "_law_kind"] ["_law_char", "_law_kind"] (defScope s_l_width) := ⟨rfl, rfl, rfl, by decide +kernel, rfl, by decide +kernel, by decide +kernel⟩
theorem bi_l_width : BindsB "_law_width" "_law_width" s_l_width ["_law_char", "_law_kind"] := fun _ _ _ _ _ _ us hl => match us, hl with | [_, _], _ => rfl
def spLWidth : Sp := fun vs H Q _ => ∃ (x : Int) (k : Kd), vs = [.int x, .str k.s] ∧ ∀ H', Same H H' → Q (.int (wd k x : Nat)) H'
theorem ok_l_width (T : Txt K mg c) : GF P w K mg base 1 "_law_width" ["_law_char", "_law_kind"] spLWidth := by
  refine T.d_l_width.gf sc_l_width bi_l_width (fun vs H Q E h => ?_) (fun f cdv A outer s H vs Q E hr h => ?_)
  · obtain ⟨x, k, rfl, _⟩ := h
    rfl
  · obtain ⟨x, k, rfl, q⟩ := h
    refine ⟨_, (pss_cons (ps_if (pt_cmpR op_eq (pv 1) pe_str (nomark _)) (pss_one (ps_ret pe_int)) pss_nil)
      (pss_cons (ps_if (pt_cmpR op_eq (pv 1) pe_str (nomark _)) (pss_one (ps_ret (pe_ifExp (pt_cmpR op_lt (pv 0) pe_int (nomark _)) pe_int pe_int))) pss_nil)
      (pss_one (ps_ret (pe_ix ix_list (pe_lst (pa_cons pe_int (pa_cons pe_int (pa_cons pe_int (pa_cons pe_int pa_nil))))) (pe_op op_add (pe_op op_add (pe_callTy call_int1 (by rfl) T.z_int (by decide +kernel) (pa_cons (pe_cmpR op_lt (pv 0) pe_int (nomark _)) pa_nil)) (pe_callTy call_int1 (by rfl) T.z_int (by decide +kernel) (pa_cons (pe_cmpR op_lt (pv 0) pe_int (nomark _)) pa_nil))) (pe_callTy call_int1 (by rfl) T.z_int (by decide +kernel) (pa_cons (pe_cmpR op_lt (pv 0) pe_int (nomark _)) pa_nil))) (fun _ _ => rfl)))))), ?_⟩
    refine ⟨_, rfl, rfl, _, rfl, ?_⟩
    rw [se]
    cases k with
    | chars => exact iteT (q _ same_refl)
    | units =>
      refine iteF ⟨_, rfl, rfl, _, rfl, ?_⟩
      rw [se]
      refine iteT ⟨_, rfl, _, _, rfl, rfl, _, rfl, ?_⟩
      have e : (wd .units x : Nat) = if x < 65536 then 1 else 2 := by
        show (1 + (if (65536 : Int) ≤ x then 1 else 0) : Nat) = _
        by_cases h : x < 65536
        · rw [if_pos h, if_neg (show ¬ (65536 : Int) ≤ x by omega)]
        · rw [if_neg h, if_pos (show (65536 : Int) ≤ x by omega)]
      by_cases h : x < 65536
      · rw [decide_eq_true h]
        rw [if_pos h] at e
        have := q H same_refl
        rw [e] at this
        exact iteT this
      · rw [decide_eq_false h]
        rw [if_neg h] at e
        have := q H same_refl
        rw [e] at this
        exact iteF this
    | bytes =>
      refine iteF ⟨_, rfl, rfl, _, rfl, ?_⟩
      rw [se]
      refine iteF ⟨lk 4 (by decide), fun p hp => ?_⟩
      have hl : SqL K (upd H p (.lst [.int 4, .int 3, .int 2, .int 1])) p [.int 4, .int 3, .int 2, .int 1] := SqL.of upd_same
      refine ⟨_, rfl, _, _, rfl, rfl, .inr ⟨_, rfl, _, rfl, _, _, rfl, rfl, .inr ⟨_, rfl, _, _, rfl, rfl, _, rfl, _, _, rfl, rfl, .inr ⟨_, rfl, _, _, rfl, rfl, ?_⟩⟩⟩⟩
      have fin : ∀ (i : Nat) (y : V), y = .int (i : Int) → ([V.int 4, .int 3, .int 2, .int 1] : List V)[i]? = some (.int (wd .bytes x : Nat)) → rIxL K (.ref p) y (upd H p (.lst [.int 4, .int 3, .int 2, .int 1])) Q := fun i y hy hi => ⟨p, _, (i : Int), _, rfl, hy, hl, atI_of hi, q _ (same_upd hp)⟩
      have e : (wd .bytes x : Nat) = 1 + (if (128 : Int) ≤ x then 1 else 0) + (if (2048 : Int) ≤ x then 1 else 0) + (if (65536 : Int) ≤ x then 1 else 0) := rfl
      by_cases h1 : x < 128
      · rw [if_neg (show ¬ (128 : Int) ≤ x by omega), if_neg (show ¬ (2048 : Int) ≤ x by omega), if_neg (show ¬ (65536 : Int) ≤ x by omega)] at e
        rw [e] at fin
        rw [decide_eq_true (show x < 65536 by omega), decide_eq_true (show x < 2048 by omega), decide_eq_true h1]
        exact fin 3 _ rfl rfl
      · by_cases h2 : x < 2048
        · rw [if_pos (show (128 : Int) ≤ x by omega), if_neg (show ¬ (2048 : Int) ≤ x by omega), if_neg (show ¬ (65536 : Int) ≤ x by omega)] at e
          rw [e] at fin
          rw [decide_eq_true (show x < 65536 by omega), decide_eq_true h2, decide_eq_false h1]
          exact fin 2 _ rfl rfl
        · by_cases h3 : x < 65536
          · rw [if_pos (show (128 : Int) ≤ x by omega), if_pos (show (2048 : Int) ≤ x by omega), if_neg (show ¬ (65536 : Int) ≤ x by omega)] at e
            rw [e] at fin
            rw [decide_eq_true h3, decide_eq_false h2, decide_eq_false h1]
            exact fin 1 _ rfl rfl
          · rw [if_pos (show (128 : Int) ≤ x by omega), if_pos (show (2048 : Int) ≤ x by omega), if_pos (show (65536 : Int) ≤ x by omega)] at e
            rw [e] at fin
            rw [decide_eq_false h3, decide_eq_false h2, decide_eq_false h1]
            exact fin 0 _ rfl rfl
/- _law_numbers: 0 _law_row, 1 _law_kind, 2 _law_found, 3 _law_char -/
theorem sc_l_numbers : FnScope ["_law_row", "_law_kind", "_law_found", "_law_char"] ["_law_row", "_law_kind"] (defScope s_l_numbers) := ⟨rfl, rfl, rfl, by decide +kernel, rfl, by decide +kernel, by decide +kernel⟩
theorem bi_l_numbers : BindsB "_law_numbers" "_law_numbers" s_l_numbers ["_law_row", "_law_kind"] := fun _ _ _ _ _ _ us hl => match us, hl with | [_, _], _ => rfl
def spLNums : Sp := fun vs H Q _ => ∃ (a : Addr) (t : List Int) (k : Kd), vs = [.ref a, .str k.s] ∧ LAt H a t ∧ t.length ≤ 1000 ∧ ∀ H' p, Same H H' → LAt H' p (nums k t) → Q (.ref p) H'
theorem ok_l_numbers (T : Txt K mg c) (G_l_width : GF P w K mg base 1 "_law_width" ["_law_char", "_law_kind"] spLWidth) : GF P w K mg base 2 "_law_numbers" ["_law_row", "_law_kind"] spLNums := by
  refine T.d_l_numbers.gf sc_l_numbers bi_l_numbers (fun vs H Q E h => ?_) (fun f cdv A outer s H vs Q E hr h => ?_)
  · obtain ⟨a, t, k, rfl, _⟩ := h
    rfl
  · obtain ⟨a, t, k, rfl, ha, ht, q⟩ := h
    refine ⟨_, (pss_cons (ps_set (i := 2) sc_l_numbers.nd rfl (Or.inl rfl) (pe_lst (pa_cons pe_int pa_nil)))
      (pss_cons (ps_for PassesOwn.never rfl (pi_listN K (pv 0)) (pg_name (i := 3) sc_l_numbers.nd rfl (Or.inl rfl))
      (pss_one (ps_expr (pe_bm PySem.F.plainAttrs_list PySem.F.slot_list_append PySem.F.type_list_append mt_append (pv 2) (pa_cons (pe_op op_add (pe_ix ix_list (pv 2) (pe_un un_neg pe_int) (fun _ _ => rfl)) (pe_gf G_l_width hr (pa_cons (pv 3) (pa_cons (pv 1) pa_nil)))) pa_nil)))))
      (pss_one (ps_ret (pv 2))))), ?_⟩
    refine ⟨lk 1 (by decide), fun p hp => ?_⟩
    have pre : ∀ i, i ≤ t.length → ((nums k t).take (i + 1)).length = i + 1 := fun i hi => by rw [List.length_take, nums_len]; omega
    refine ⟨_, rfl, a, rfl, ⟨_, SqL.of ((same_upd hp) _ _ ha)⟩, for_list (K := K) (a := a) (xs := t.map V.int) (fun i σ H1 => ∃ v3, σ = [some (.ref a), some (.str k.s), some (.ref p), v3] ∧ Same H H1 ∧ H1 p = some (.lst (((nums k t).take (i + 1)).map V.int))) ⟨none, rfl, same_upd hp, ?_⟩ ?_ ?_ ?_⟩
    · rw [upd_same]
      have e : (nums k t).take 1 = [0] := by
        rw [take_snoc (i := 0) (nums_at (k := k) (t := t) (Nat.zero_le _))]
        rfl
      rw [e]
      rfl
    · rintro i σ H1 _ ⟨v3, rfl, s1, _⟩
      exact SqL.of (s1 _ _ ha)
    · rintro i y σ H1 hy ⟨v3, rfl, s1, h1⟩
      obtain ⟨x, hx, rfl⟩ := map_at_int hy
      have hi := (List.getElem?_eq_some_iff.mp hx).1
      have hlast : (((nums k t).take (i + 1)).map V.int)[(((nums k t).take (i + 1)).map V.int).length - 1]? = some (.int (numAt (wd k) t i : Int)) := by
        rw [List.length_map, pre i (by omega), List.getElem?_map, List.getElem?_take_of_lt (by omega), show i + 1 - 1 = i by omega, nums_at (by omega)]
        rfl
      refine ⟨_, rfl, .inl ⟨rfl, _, SqL.of h1⟩, _, rfl, _, rfl, p, _, -1, _, rfl, rfl, SqL.of h1, atI_neg1 hlast, _, rfl, _, rfl, x, k, rfl, fun H2 s2 => ⟨_, _, rfl, rfl, p, _, _, rfl, rfl, s2 _ _ h1, szlt _ (by rw [List.length_map, pre i (by omega)]; omega), _, rfl, same_mut (s1.trans s2) hp, ?_⟩⟩
      rw [upd_same, take_snoc (i := i + 1) (nums_at (k := k) (t := t) (show i + 1 ≤ t.length by omega)), List.map_append, numAt_succ hi]
      have e : t.getD i 0 = x := by rw [List.getD_eq_getElem?_getD, hx]; rfl
      rw [e, Int.natCast_add]
      rfl
    · rintro σ H1 ⟨v3, rfl, s1, h1⟩
      refine ⟨_, rfl, q H1 p s1 ?_⟩
      rw [List.length_map, List.take_of_length_le (by rw [nums_len]; exact Nat.le_refl _)] at h1
      exact h1
/- _law_counted_edits: 0 _law_edits, 1 _law_chars, 2 _law_kind, 3 _law_spots (cell), 4 _law_begin, 5 _law_last, 6 _law_some -/
theorem sc_l_counted_edits : FnScope ["_law_edits", "_law_chars", "_law_kind", "_law_spots", "_law_begin", "_law_last", "_law_some"] ["_law_edits", "_law_chars", "_law_kind"] (defScope s_l_counted_edits) := ⟨rfl, rfl, rfl, by decide +kernel, rfl, by decide +kernel, by decide +kernel⟩
theorem bi_l_counted_edits : BindsB "_law_counted_edits" "_law_counted_edits" s_l_counted_edits ["_law_edits", "_law_chars", "_law_kind"] := fun _ _ _ _ _ _ us hl => match us, hl with | [_, _, _], _ => rfl
def spLCounted : Sp := fun vs H Q _ => ∃ (el e cl a : Addr) (b l : Nat) (cs t : List Int) (k : Kd), vs = [.ref el, .ref a, .str k.s] ∧ H el = some (.lst [.ref e]) ∧ H e = some (.tup [.int b, .int l, .ref cl]) ∧ LAt H cl cs ∧ LAt H a t ∧ b ≤ t.length ∧ l ≤ t.length ∧ t.length ≤ 1000 ∧
  ∀ H' el' e' cl', Same H H' → H' el' = some (.lst [.ref e']) → H' e' = some (.tup [.int (numAt (wd k) t b : Nat), .int (numAt (wd k) t l : Nat), .ref cl']) → LAt H' cl' cs → Q (.ref el') H'
theorem ok_l_counted_edits (T : Txt K mg c) (G_l_numbers : GF P w K mg base 2 "_law_numbers" ["_law_row", "_law_kind"] spLNums) : GF P w K mg base 3 "_law_counted_edits" ["_law_edits", "_law_chars", "_law_kind"] spLCounted := by
  refine T.d_l_counted_edits.gf sc_l_counted_edits bi_l_counted_edits (fun vs H Q E h => ?_) (fun f cdv A outer s H vs Q E hr h => ?_)
  · obtain ⟨el, e, cl, a, b, l, cs, t, k, rfl, _⟩ := h
    rfl
  · obtain ⟨el, e, cl, a, b, l, cs, t, k, rfl, hel, he, hcl, ha, hb, hl, ht, q⟩ := h
    refine ⟨_, (pss_cons (ps_set (i := 3) sc_l_counted_edits.nd rfl (Or.inr rfl) (pe_gf G_l_numbers hr (pa_cons (pv 1) (pa_cons (pv 2) pa_nil))))
      (pss_one (ps_ret (pe_lc (own := [("_law_begin", 4), ("_law_last", 5), ("_law_some", 6)]) (g := gTup K 3 (gCons (gName 4) (gCons (gName 5) (gCons (gName 6) gNil)))) rfl sc_l_counted_edits.nd (pi_listN K (pv 0)) (blkOk_by (own := [("_law_begin", 4), ("_law_last", 5), ("_law_some", 6)]) (N := ["_law_edits", "_law_chars", "_law_kind", "_law_spots", "_law_begin", "_law_last", "_law_some"]) (sc := defScope s_l_counted_edits) (by decide +kernel)) (fun _ _ _ _ _ => (pg_tupN K rfl (pgs_cons (pg_name (i := 4) sc_l_counted_edits.nd rfl (by first | exact Or.inl rfl | exact Or.inr rfl)) (pgs_cons (pg_name (i := 5) sc_l_counted_edits.nd rfl (by first | exact Or.inl rfl | exact Or.inr rfl)) (pgs_cons (pg_name (i := 6) sc_l_counted_edits.nd rfl (by first | exact Or.inl rfl | exact Or.inr rfl)) pgs_nil))))) (fun _ _ _ _ _ => pts_nil) (fun _ _ _ _ _ => (pe_tup (pa_cons (pe_ix (ix_listN K) (pv 3) (pv 4) (fun _ _ => rfl)) (pa_cons (pe_ix (ix_listN K) (pv 3) (pv 5) (fun _ _ => rfl)) (pa_cons (pe_callTy (call_list_ofN K) (by rfl) T.z_list (by decide +kernel) (pa_cons (pv 6) pa_nil)) pa_nil))))))))), ?_⟩
    refine ⟨_, rfl, _, rfl, a, t, k, rfl, ha, ht, fun H1 p s1 hp => ?_⟩
    refine ⟨_, rfl, el, rfl, ⟨_, SqL.of (s1 _ _ hel)⟩, fun D hD => ?_⟩
    refine lc_list (K := K) (a := el) (xs := [.ref e]) (fun i H2 => Same H1 H2 ∧ (if i = 0 then H2 D = some (.lst []) else ∃ e' cl', H2 D = some (.lst [.ref e']) ∧ H2 e' = some (.tup [.int (numAt (wd k) t b : Nat), .int (numAt (wd k) t l : Nat), .ref cl']) ∧ LAt H2 cl' cs)) ⟨same_upd hD, by rw [if_pos rfl]; exact upd_same⟩ (fun i H2 _ z => SqL.of (z.1 _ _ (s1 _ _ hel))) ?_ ?_
    · rintro i x H2 hx ⟨s2, h2⟩
      have hi : i = 0 := by
        have := (List.getElem?_eq_some_iff.mp hx).1
        simp at this
        exact this
      subst hi
      obtain rfl : V.ref e = x := by simpa using hx
      rw [if_pos rfl] at h2
      have s02 := s1.trans s2
      refine ⟨e, _, rfl, SqT.of (s02 _ _ he), rfl, _, _, rfl, _, _, rfl, _, _, rfl, rfl, rfl, yesT ?_⟩
      have hp2 : LAt H2 p (nums k t) := hp.mono s2
      refine ⟨_, rfl, _, rfl, p, _, (b : Int), _, rfl, rfl, SqL.of hp2, atI_of (by rw [List.getElem?_map, nums_at hb]; rfl), ?_⟩
      refine ⟨_, rfl, _, rfl, p, _, (l : Int), _, rfl, rfl, SqL.of hp2, atI_of (by rw [List.getElem?_map, nums_at hl]; rfl), ?_⟩
      refine ⟨_, rfl, cl, _, rfl, .inl (SqL.of (s02 _ _ hcl)), fun cl' hcl' => ⟨lk 3 (by decide), fun e' he' => ?_⟩⟩
      have ncD : cl' ≠ D := (ne_of_none h2 hcl').symm
      have hD3 : upd H2 cl' (.lst (cs.map V.int)) D = some (.lst []) := (same_upd hcl') _ _ h2
      have neD : e' ≠ D := (ne_of_none hD3 he').symm
      have ncE : cl' ≠ e' := ne_of_none upd_same he'
      refine ⟨_, (same_upd he') _ _ hD3, by decide, same_mut ((s2.trans (same_upd hcl')).trans (same_upd he')) hD, ?_⟩
      rw [if_neg (show ¬ (0 + 1 : Nat) = 0 by decide)]
      refine ⟨e', cl', upd_same, ?_, ?_⟩
      · rw [upd_ne neD]
        exact upd_same
      · show upd (upd (upd H2 cl' _) e' _) D _ cl' = _
        rw [upd_ne ncD, upd_ne ncE, upd_same]
    · rintro H2 ⟨s2, h2⟩
      rw [if_neg (show ¬ ([V.ref e] : List V).length = 0 from Nat.succ_ne_zero 0)] at h2
      obtain ⟨e', cl', h3, h4, h5⟩ := h2
      exact q H2 D e' cl' (s1.trans s2) h3 h4 h5
/- _law_fresh: 0 _law_number -/
theorem sc_l_fresh : FnScope ["_law_number"] ["_law_number"] (defScope s_l_fresh) := ⟨rfl, rfl, rfl, by decide +kernel, rfl, by decide +kernel, by decide +kernel⟩
theorem bi_l_fresh : BindsB "_law_fresh" "_law_fresh" s_l_fresh ["_law_number"] := fun _ _ _ _ _ _ us hl => match us, hl with | [_], _ => rfl
def spLFresh : Sp := fun vs H Q _ => ∃ n : Nat, vs = [.int n] ∧ ∀ H', Same H H' → Q (.int (fresh n)) H'
theorem ok_l_fresh (T : Txt K mg c) : GF P w K mg base 1 "_law_fresh" ["_law_number"] spLFresh := by
  refine T.d_l_fresh.gf sc_l_fresh bi_l_fresh (fun vs H Q E h => ?_) (fun f cdv A outer s H vs Q E hr h => ?_)
  · obtain ⟨n, rfl, _⟩ := h
    rfl
  · obtain ⟨n, rfl, q⟩ := h
    refine ⟨_, (pss_one (ps_ret (pe_op op_add (pe_ix ix_list (pe_lst (pa_cons pe_int (pa_cons pe_int (pa_cons pe_int (pa_cons pe_int pa_nil))))) (pe_op op_modN (pv 0) pe_int) (fun _ _ => rfl)) (pe_op op_fdivN (pv 0) pe_int)))), ?_⟩
    refine ⟨lk 4 (by decide), fun p hp => ?_⟩
    have e1 : (n : Int).fmod 4 = ((n % 4 : Nat) : Int) := by
      rw [Int.fmod_eq_emod_of_nonneg _ (by decide)]
      rfl
    have e2 : (n : Int).fdiv 4 = ((n / 4 : Nat) : Int) := by
      rw [Int.fdiv_eq_ediv_of_nonneg _ (by decide)]
      rfl
    have hl : SqL K (upd H p (.lst [.int 200, .int 9000, .int 70000, .int 40])) p [.int 200, .int 9000, .int 70000, .int 40] := SqL.of upd_same
    have h4 : n % 4 < 4 := Nat.mod_lt _ (by decide)
    have hat : ([V.int 200, .int 9000, .int 70000, .int 40] : List V)[n % 4]? = some (.int (([200, 9000, 70000, 40] : List Int).getD (n % 4) 0)) := by
      generalize n % 4 = r at h4
      match r, h4 with
      | 0, _ => rfl
      | 1, _ => rfl
      | 2, _ => rfl
      | 3, _ => rfl
    have := q _ (same_upd (o := .lst [.int 200, .int 9000, .int 70000, .int 40]) hp)
    unfold fresh at this
    rw [← e2] at this
    refine ⟨_, rfl, _, _, rfl, rfl, (show (4 : Int) ≠ 0 by decide), p, _, ((n % 4 : Nat) : Int), _, rfl, (by rw [← e1]), hl, atI_of hat, _, rfl, _, _, rfl, rfl, ⟨by decide, by decide⟩, _, _, rfl, rfl, this⟩
/- _law_in_order: 0 _law_chars (cell), 1 _law_some (cell), 2 _law_char -/
theorem sc_l_in_order : FnScope ["_law_chars", "_law_some", "_law_char"] ["_law_chars", "_law_some"] (defScope s_l_in_order) := ⟨rfl, rfl, rfl, by decide +kernel, rfl, by decide +kernel, by decide +kernel⟩
theorem bi_l_in_order : BindsB "_law_in_order" "_law_in_order" s_l_in_order ["_law_chars", "_law_some"] := fun _ _ _ _ _ _ us hl => match us, hl with | [_, _], _ => rfl
def spLOrder : Sp := fun vs H Q _ => ∃ (a b : Addr) (t u : List Int), vs = [.ref a, .ref b] ∧ LAt H a t ∧ LAt H b u ∧ t.length ≤ 1000 ∧ u.length ≤ 1000 ∧ ∀ H', Same H H' → Q (.bl (decide ((t.filter fun x => decide (x ∈ u)) = u.filter fun x => decide (x ∈ t)))) H'
theorem ok_l_in_order (T : Txt K mg c) : GF P w K mg base 1 "_law_in_order" ["_law_chars", "_law_some"] spLOrder := by
  refine T.d_l_in_order.gf sc_l_in_order bi_l_in_order (fun vs H Q E h => ?_) (fun f cdv A outer s H vs Q E hr h => ?_)
  · obtain ⟨a, b, t, u, rfl, _⟩ := h
    rfl
  · obtain ⟨a, b, t, u, rfl, ha, hb, ht, hu, q⟩ := h
    refine ⟨_, (pss_one (ps_ret (pe_cmpR (op_eqD (hu64 hr)) (pe_lc (own := [("_law_char", 2)]) (g := gName 2) rfl sc_l_in_order.nd (pi_listN K (pv 0)) (blkOk_by (own := [("_law_char", 2)]) (N := ["_law_chars", "_law_some", "_law_char"]) (sc := defScope s_l_in_order) (by decide +kernel)) (fun _ _ _ _ _ => pg_name (i := 2) sc_l_in_order.nd rfl (by first | exact Or.inl rfl | exact Or.inr rfl)) (fun _ _ _ _ _ => (pts_one (pt_cmpR (op_in_seqN K) (pv 2) (pv 1) (by rfl)))) (fun _ _ _ _ _ => (pv 2))) (pe_lc (own := [("_law_char", 2)]) (g := gName 2) rfl sc_l_in_order.nd (pi_listN K (pv 1)) (blkOk_by (own := [("_law_char", 2)]) (N := ["_law_chars", "_law_some", "_law_char"]) (sc := defScope s_l_in_order) (by decide +kernel)) (fun _ _ _ _ _ => pg_name (i := 2) sc_l_in_order.nd rfl (by first | exact Or.inl rfl | exact Or.inr rfl)) (fun _ _ _ _ _ => (pts_one (pt_cmpR (op_in_seqN K) (pv 2) (pv 0) (by rfl)))) (fun _ _ _ _ _ => (pv 2))) (nomark _)))), ?_⟩
    refine ⟨_, rfl, a, rfl, ⟨_, SqL.of ha⟩, fun D hD => ?_⟩
    refine flt_it (K := K) (fun x => decide (x ∈ u)) ha hD (by show 2 < 3; decide) (by omega) (fun x H1 R hx s1 hR => ?_) (fun H1 s1 h1 => ?_)
    · refine ⟨_, rfl, _, rfl, b, _, rfl, .inl (SqL.of (s1 _ _ hb)), rfl, flat_ints u, _, rfl, ?_⟩
      show R (inV (.int x) (u.map V.int)) H1
      rw [inV_ints]
      exact hR H1 same_refl
    refine ⟨_, rfl, b, rfl, ⟨_, SqL.of (s1 _ _ hb)⟩, fun D2 hD2 => ?_⟩
    refine flt_it (K := K) (fun x => decide (x ∈ t)) (hb.mono s1) hD2 (by show 2 < 3; decide) (by omega) (fun x H2 R hx s2 hR => ?_) (fun H2 s2 h2 => ?_)
    · refine ⟨_, rfl, _, rfl, a, _, rfl, .inl (SqL.of (s2 _ _ (s1 _ _ ha))), rfl, flat_ints t, _, rfl, ?_⟩
      show R (inV (.int x) (t.map V.int)) H2
      rw [inV_ints]
      exact hR H2 same_refl
    refine ⟨_, _, dp_ints (s2 _ _ h1), dp_ints h2, PySem.W.ke_shaped_ints _, PySem.W.ke_shaped_ints _, ?_⟩
    rw [eqv_ints]
    exact q H2 (s1.trans s2)
end
end Tc
/-! # The walks: the law's steps of the net -/
namespace Tc
open PySem PySem.Spec PyProof.Rows L2
/-- a company beside the bag; H0: what stands throughout -/
def LawG (c : Cs) (b : Addr) (H0 : Hp) (co : Addr) (ks : List (Str × Kd)) (G : Gh) (p : CoS → Prop) (k : Nat) (H : Hp) : Prop := CoG c H0 co ks G p (Msk H [b]) ∧ BagAt H b k
section
variable {c : Cs} {b : Addr} {H0 H H' : Hp} {co : Addr} {ks : List (Str × Kd)} {G : Gh} {p q : CoS → Prop} {k k' : Nat}
theorem LawG.bag (h : LawG c b H0 co ks G p k H) {o : HO} (ho : BagO k' o) : LawG c b H0 co ks G p k' (upd H b o) := by
  refine ⟨?_, o, upd_same, ho⟩
  rw [msk_mut (List.mem_singleton.mpr rfl)]
  exact h.1
theorem LawG.grow (h : LawG c b H0 co ks G p k H) (s : Same H H') : LawG c b H0 co ks G p k H' := by
  obtain ⟨h1, o, h2, h3⟩ := h
  exact ⟨h1.grow (msk_mono s), o, s _ _ h2, h3⟩
theorem LawG.more (h : LawG c b H0 co ks G p k H) (le : k ≤ k') : LawG c b H0 co ks G p k' H := by
  obtain ⟨h1, o, h2, h3⟩ := h
  exact ⟨h1, o, h2, h3.mono le⟩
theorem LawG.imp (h : LawG c b H0 co ks G p k H) (f : ∀ C, nmk C = ks → Inv C G → p C → q C) : LawG c b H0 co ks G q k H := ⟨h.1.imp f, h.2⟩
theorem LawG.at_ (h : LawG c b H0 co ks G p k H) {a : Addr} {o : HO} (e : H0 a = some o) : H a = some o := msk_same _ _ (h.1.at_ e)
theorem LawG.same (h : LawG c b H0 co ks G p k H) : Same H0 H := fun a o e => h.at_ e
theorem LawG.fbl (h : LawG c b H0 co ks G p k H) : ∀ y ∈ [b], Fbl H y := fun y hy => by
  obtain ⟨_, o, h2, z, y2, j, rfl, _⟩ := h
  rw [List.mem_singleton.mp hy]
  exact .inl ⟨_, h2⟩
theorem LawG.back {H2 : Hp} {G1 : Gh} {I1 : Hp} (h : LawG c b I1 co ks G1 q k H2) (hf : ∀ y ∈ [b], H' y = none) (hg : CoG c H0 co ks G p H') : LawG c b H0 co ks G p k (glue H2 [b] H') := by
  obtain ⟨_, o, h2, h3⟩ := h
  refine ⟨?_, o, ?_, h3⟩
  · rw [glue_msk hf]
    exact hg
  · rw [glue_in (List.mem_singleton.mpr rfl)]
    exact h2
/-- what is made anew stands from now on -/
theorem LawG.news (h : LawG c b H0 co ks G p k H) (s : Same H H') : ∃ I, Same H0 I ∧ (∀ a o, H a = none → H' a = some o → I a = some o) ∧ LawG c b I co ks G p k H' := by
  obtain ⟨⟨M, C, r, h1, h2, h3, h4, h5⟩, o, e, ho⟩ := h
  refine ⟨Msk (Msk H' [b]) M, h4.trans (msk_mono (msk_mono s)), fun a u n e2 => ?_, ⟨M, C, r, h1.grow (msk_mono s), h2, h3, same_refl, h5⟩, o, s _ _ e, ho⟩
  have n1 : a ≠ b := fun z => by rw [z, e] at n; cases n
  have n2 : a ∉ M := fun z => h1.liveM a z (msk_none n)
  rw [msk_at n2, msk_at (by simpa using n1)]
  exact e2
end
section
variable {P : Program} {w : World} {K : PySem.W.Frag} {mg : Str → Option Value} {base : Heap} {c : Cs}
/- _law_send_all: 0 _law_bag_here, 1 _law_company, 2 _law_some, 3 _law_most, 4 _law_turn, 5 _law_who, 6 _law_way, 7 _law_queues -/
theorem sc_l_send_all : FnScope ["_law_bag_here", "_law_company", "_law_some", "_law_most", "_law_turn", "_law_who", "_law_way", "_law_queues"] ["_law_bag_here", "_law_company", "_law_some", "_law_most"] (defScope s_l_send_all) := ⟨rfl, rfl, rfl, by decide +kernel, rfl, by decide +kernel, by decide +kernel⟩
theorem bi_l_send_all : BindsB "_law_send_all" "_law_send_all" s_l_send_all ["_law_bag_here", "_law_company", "_law_some", "_law_most"] := fun _ _ _ _ _ _ us hl => match us, hl with | [_, _, _, _], _ => rfl
def spLSend (c : Cs) : Sp := fun vs H Q _ => ∃ (b co s : Addr) (most k : Nat) (H0 : Hp) (ks : List (Str × Kd)) (G : Gh), vs = [.ref b, .ref co, .ref s, .int most] ∧ LawG c b H0 co ks G (fun _ => True) k H ∧ H0 s = some (.lst (nmsV ks)) ∧ 1 ≤ ks.length ∧ ks.length ≤ 100 ∧ most ≤ 100 ∧ k + 2 * most ≤ 1000000 ∧
  ∀ H', LawG c b H0 co ks G (fun _ => True) (k + 2 * most) H' → Q .non H'
theorem ok_l_send_all (T : Txt K mg c) (G_l_take : GF P w K mg base 1 "_law_take" ["_law_bag_here", "_law_many"] spLTake) (G_Company_queues : MF P w K mg base 3 c.co "queues" ["self", "name"] [] (spCoQ c)) (G_Company_send : MF P w K mg base 6 c.co "send" ["self", "name"] [] (spCoSend c)) (G_Company_deliver_up : MF P w K mg base 9 c.co "deliver_up" ["self", "name"] [] (spCoUp c)) (G_Company_deliver_down : MF P w K mg base 10 c.co "deliver_down" ["self", "name"] [] (spCoDown c)) : GF P w K mg base 11 "_law_send_all" ["_law_bag_here", "_law_company", "_law_some", "_law_most"] (spLSend c) := by
  refine T.d_l_send_all.gf sc_l_send_all bi_l_send_all (fun vs H Q E h => ?_) (fun f cdv A outer s H vs Q E hr h => ?_)
  · obtain ⟨b, co, s, most, k, H0, ks, G, rfl, _⟩ := h
    rfl
  · obtain ⟨b, co, sl, most, k, H0, ks, G, rfl, hL, hs, hk1, hk2, hm, hkm, q⟩ := h
    refine ⟨_, (pss_one (ps_for PassesOwn.never rfl (pi_range1 (by rfl) T.z_range (pa_cons (pv 3) pa_nil)) (pg_name (i := 4) sc_l_send_all.nd rfl (Or.inl rfl))
      (pss_cons (ps_set (i := 5) sc_l_send_all.nd rfl (Or.inl rfl) (pe_ix ix_list (pv 2) (pe_gf G_l_take hr (pa_cons (pv 0) (pa_cons (pe_callB call_len_seq (by rfl) T.z_len (by decide +kernel) (pa_cons (pv 2) pa_nil)) pa_nil))) (fun _ _ => rfl)))
      (pss_cons (ps_par (i := 6) (j := 7) (by rfl) sc_l_send_all.nd rfl rfl (by decide) rfl rfl (pa_cons (pe_gf G_l_take hr (pa_cons (pv 0) (pa_cons pe_int pa_nil))) (pa_cons (pe_mf G_Company_queues T.cl_co hr (pv 1) (pa_cons (pv 5) pa_nil)) pa_nil)) (by rfl))
      (pss_one (ps_if (pt_cmpR op_eq (pv 6) pe_int (nomark _)) (pss_one (ps_expr (pe_frm (pe_mf G_Company_send T.cl_co hr (pv 1) (pa_cons (pv 5) pa_nil))))) (pss_one (ps_if (PW.pt (pw_and (pt_cmpR op_eq (pv 6) pe_int (nomark _)) (pw_and1 (pt_cmpR op_gt (pe_ix ix_tup (pv 7) pe_int (fun _ _ => rfl)) pe_int (nomark _))))) (pss_one (ps_expr (pe_frm (pe_mf G_Company_deliver_up T.cl_co hr (pv 1) (pa_cons (pv 5) pa_nil))))) (pss_one (ps_if (PW.pt (pw_and (pt_cmpR op_eq (pv 6) pe_int (nomark _)) (pw_and1 (pt_cmpR op_gt (pe_ix ix_tup (pv 7) pe_int (fun _ _ => rfl)) pe_int (nomark _))))) (pss_one (ps_expr (pe_frm (pe_mf G_Company_deliver_down T.cl_co hr (pv 1) (pa_cons (pv 5) pa_nil))))) pss_nil)))))))))), ?_⟩
    have hnl : (nmsV ks).length = ks.length := by unfold nmsV; rw [List.length_map]
    refine ⟨_, rfl, most, rfl, by omega, by omega, for_range (fun i σ H1 => ∃ v4 v5 v6 v7, σ = [some (.ref b), some (.ref co), some (.ref sl), some (.int most), v4, v5, v6, v7] ∧ LawG c b H0 co ks G (fun _ => True) (k + 2 * i) H1) ⟨none, none, none, none, rfl, hL⟩ ?_ ?_⟩
    · rintro i σ H1 hi ⟨v4, v5, v6, v7, rfl, hL1⟩
      have hi : i < most := by simpa using hi
      refine seq_join (fun σ H2 => ∃ (v4 : Option V) (j : Nat) (qk : Str × Kd), σ = [some (.ref b), some (.ref co), some (.ref sl), some (.int most), v4, some (.str qk.1), v6, v7] ∧ ks[j]? = some qk ∧ LawG c b H0 co ks G (fun _ => True) (k + 2 * i + 1) H2) (fun N hN => ?_) ?_
      · refine ⟨_, rfl, _, rfl, _, rfl, sl, _, rfl, .inl (SqL.of (hL1.at_ hs)), b, (nmsV ks).length, k + 2 * i, rfl, hL1.2, by omega, by omega, by omega, fun d o hd ho => ?_⟩
        have hL2 := hL1.bag ho
        have hd2 : d < ks.length := by rw [← hnl]; exact hd
        refine ⟨sl, nmsV ks, (d : Int), .str (ks[d]'hd2).1, rfl, rfl, SqL.of (hL2.at_ hs), atI_of ?_, hN _ _ ⟨_, d, ks[d]'hd2, rfl, List.getElem?_eq_getElem hd2, hL2⟩⟩
        unfold nmsV
        rw [List.getElem?_map, List.getElem?_eq_getElem hd2]
        rfl
      rintro σ H2 ⟨v4, j, qk, rfl, hqk, hL2⟩
      refine seq_join (fun σ H3 => ∃ (d : Nat) (t : Addr) (y : PgS), σ = [some (.ref b), some (.ref co), some (.ref sl), some (.int most), v4, some (.str qk.1), some (.int d), some (.ref t)] ∧ y.nm = qk.1 ∧ LawG c b H0 co ks G (fun C => C.ps[j]? = some y) (k + 2 * i + 2) H3 ∧ H3 t = some (.tup [.int (y.up.length : Nat), .int (y.dn.length : Nat)])) (fun N hN => ?_) ?_
      · refine ⟨_, rfl, b, 3, k + 2 * i + 1, rfl, hL2.2, by decide, by decide, by omega, fun d o hd ho => ?_⟩
        have hL3 := hL2.bag ho
        obtain ⟨⟨M, C, r, hc, hI, hk, hs3, _⟩, hb3⟩ := id hL3
        obtain ⟨y, hy, hnm, hkd⟩ := nmk_at hk hqk
        have hc' := hc.grow (msk_same (M := [b]))
        refine ⟨_, rfl, co, r.dx, _, rfl, hc'.ins, rfl, _, rfl, co, M, C, r, y, j, by rw [hnm]; rfl, hc', hy, fun t ht => ⟨_, _, rfl, hN _ _ ⟨d, t, y, rfl, hnm, ?_, upd_same⟩⟩⟩
        have hL3' : LawG c b H0 co ks G (fun C => C.ps[j]? = some y) (k + 2 * i + 2) (upd H2 b o) := ⟨⟨M, C, r, hc, hI, hk, hs3, hy⟩, hb3⟩
        exact hL3'.grow (same_upd ht)
      rintro σ H3 ⟨d, t, y, rfl, hnm, hL3, ht⟩
      obtain ⟨⟨M, C, r, hc, hI, hk, hs3, hy⟩, hb3⟩ := id hL3
      have fin : ∀ {H'}, (∀ y ∈ [b], H' y = none) → CoG c H0 co ks G (fun _ => True) H' → LawG c b H0 co ks G (fun _ => True) (k + 2 * (i + 1)) (glue H3 [b] H') := fun hf hg => (hL3.back hf hg).more (by omega)
      have none_ : LawG c b H0 co ks G (fun _ => True) (k + 2 * (i + 1)) H3 := (hL3.imp fun _ _ _ _ => trivial).more (by omega)
      refine ⟨_, rfl, rfl, _, rfl, ?_⟩
      by_cases h0 : (V.int (d : Int) = V.int 0)
      · rw [decide_eq_true h0]
        refine iteT ⟨[b], hL3.fbl, _, rfl, co, r.dx, _, rfl, hc.ins, rfl, _, rfl, co, M, C, r, y, j, by rw [hnm]; rfl, hc, hy, hI.psOk hy, by have := hI.upLen hy; omega, fun hno H' M' r' s' h' hf => ?_, fun W hW hS H' M' r' s' h' hf => ?_⟩
        · exact ⟨_, _, _, _, rfl, fin hf ⟨M', C, r', h', hI, hk, hs3.trans s', trivial⟩⟩
        · exact ⟨_, _, _, _, rfl, fin hf ⟨M', _, r', h', hI.send hy hW hS, by rw [nmk_set hy (by rfl) (by rfl)]; exact hk, hs3.trans s', trivial⟩⟩
      · rw [decide_eq_false h0]
        refine iteF ⟨_, rfl, rfl, _, rfl, ?_⟩
        by_cases h1 : (V.int (d : Int) = V.int 1)
        · rw [decide_eq_true h1]
          refine iteT ⟨_, rfl, t, _, 0, .int (y.up.length : Nat), rfl, rfl, SqT.of ht, rfl, _, _, rfl, rfl, _, rfl, ?_⟩
          cases hup : y.up with
          | nil =>
            refine iteF ⟨_, rfl, rfl, _, rfl, ?_⟩
            rw [decide_eq_false (show ¬ V.int (d : Int) = V.int 2 by rw [h1]; intro z; cases z)]
            exact iteF (iteF ⟨_, _, _, _, rfl, none_⟩)
          | cons msg rest =>
            obtain ⟨v, D, tx⟩ := msg
            obtain ⟨u1, u2, u3, u4⟩ := hI.upOk hy hup
            subst u1
            rw [decide_eq_true (show (((([(v, D, tx)] : List (Nat × Dl × List Int)).length : Nat) : Int) > 0) by rw [List.length_cons]; omega)]
            refine iteT ⟨[b], hL3.fbl, _, rfl, co, r.dx, _, rfl, hc.ins, rfl, _, rfl, co, M, C, r, y, j, v, D, tx, [], by rw [hnm]; rfl, hc, hy, hI.svOk, by have := hI.len; omega, by rw [nmk_len hk]; exact hk2, hI.dnLen, hup, u2, u3, u4, fun H' M' r' s' h' hf => ?_⟩
            exact ⟨_, _, _, _, rfl, fin hf ⟨M', _, r', h', hI.subm hy hup, (nmk_subm hy).trans hk, hs3.trans s', trivial⟩⟩
        · rw [decide_eq_false h1]
          refine iteF (iteF ⟨_, rfl, rfl, _, rfl, ?_⟩)
          by_cases h2 : (V.int (d : Int) = V.int 2)
          · rw [decide_eq_true h2]
            refine iteT ⟨_, rfl, t, _, 1, .int (y.dn.length : Nat), rfl, rfl, SqT.of ht, rfl, _, _, rfl, rfl, _, rfl, ?_⟩
            cases hdn : y.dn with
            | nil => exact iteF ⟨_, _, _, _, rfl, none_⟩
            | cons msg rest =>
              obtain ⟨d1, d2, d3⟩ := hI.downOk hy hdn
              rw [decide_eq_true (show ((((msg :: rest).length : Nat) : Int) > 0) by rw [List.length_cons]; omega)]
              refine iteT ⟨[b], hL3.fbl, _, rfl, co, r.dx, _, rfl, hc.ins, rfl, _, rfl, co, M, C, r, y, j, msg.2.2, rest, by rw [hnm]; rfl, hc, hy, hI.psOk hy, d2, d1, d3, fun mv H' M' r' s' h' hf => ?_⟩
              exact ⟨_, _, _, _, rfl, fin hf ⟨M', _, r', h', hI.recv hy hdn, by rw [nmk_set hy (by rfl) (by rfl)]; exact hk, hs3.trans s', trivial⟩⟩
          · rw [decide_eq_false h2]
            exact iteF (iteF ⟨_, _, _, _, rfl, none_⟩)
    · rintro σ H1 ⟨v4, v5, v6, v7, rfl, hL1⟩
      exact q H1 (hL1.more (by simp))
end
end Tc
/-! # The walks: one edit of the law -/
namespace Tc
open PySem PySem.Spec PyProof.Rows L2
theorem cut_two {α : Type} (f : α → V) (xs : List α) (a b : Nat) (h1 : a ≤ b) (h2 : b ≤ xs.length) : cutV (xs.map f) (some (a : Int)) (some (b : Int)) = ((xs.take b).drop a).map f := by
  unfold cutV
  rw [HT.sIx_nat, HT.sIx_nat, List.length_map, Nat.min_eq_left (show a ≤ xs.length by omega), Nat.min_eq_left h2, ← List.map_drop, ← List.map_take, List.drop_take]
def freshes (n m : Nat) : List Int := (List.range m).map fun i => fresh (n + i)
theorem freshes_mem {n m : Nat} {z : Int} (h : z ∈ freshes n m) : ∃ i, i < m ∧ z = fresh (n + i) := by
  obtain ⟨i, h1, h2⟩ := List.mem_map.mp h
  exact ⟨i, List.mem_range.mp h1, h2.symm⟩
theorem freshes_len (n m : Nat) : (freshes n m).length = m := by simp [freshes]
theorem freshes_succ (n m : Nat) : freshes n (m + 1) = freshes n m ++ [fresh (n + m)] := by
  unfold freshes
  rw [List.range_succ, List.map_append]
  rfl
theorem freshes_nodup {n : Nat} : ∀ {m : Nat}, n + m ≤ 100 → (freshes n m).Nodup
  | 0, _ => List.nodup_nil
  | m + 1, h => by
    rw [freshes_succ, List.nodup_append]
    refine ⟨freshes_nodup (by omega), by simp, fun a ha b hb e => ?_⟩
    obtain ⟨i, hi, rfl⟩ := freshes_mem ha
    rw [List.mem_singleton.mp hb] at e
    have := fresh_inj (by omega) (by omega) e
    omega
/-- all that was seen is among the first n -/
def Seen (G : Gh) (n : Nat) : Prop := ∀ z ∈ G.seen, ∃ m, m < n ∧ z = fresh m
theorem Seen.edit {G : Gh} {n m j : Nat} {dd : List Int} (h : Seen G n) : Seen (G.edit j (freshes n m) dd) (n + m) := fun z hz => by
  rw [edit_seen] at hz
  rcases List.mem_append.mp hz with e | e
  · obtain ⟨i, h1, h2⟩ := h z e
    exact ⟨i, by omega, h2⟩
  · obtain ⟨i, h1, h2⟩ := freshes_mem e
    exact ⟨n + i, by omega, h2⟩
section
variable {P : Program} {w : World} {K : PySem.W.Frag} {mg : Str → Option Value} {base : Heap} {c : Cs}
/- _law_edited: 0 _law_bag_here, 1 _law_company, 2 _law_who, 3 _law_kind, 4 _law_state (cell), 5 _law_chars, 6 _law_begin, 7 _law_last, 8 _law_some, 9 _law_step -/
theorem sc_l_edited : FnScope ["_law_bag_here", "_law_company", "_law_who", "_law_kind", "_law_state", "_law_chars", "_law_begin", "_law_last", "_law_some", "_law_step"] ["_law_bag_here", "_law_company", "_law_who", "_law_kind", "_law_state"] (defScope s_l_edited) := ⟨rfl, rfl, rfl, by decide +kernel, rfl, by decide +kernel, by decide +kernel⟩
theorem bi_l_edited : BindsB "_law_edited" "_law_edited" s_l_edited ["_law_bag_here", "_law_company", "_law_who", "_law_kind", "_law_state"] := fun _ _ _ _ _ _ us hl => match us, hl with | [_, _, _, _, _], _ => rfl
def spLEdited (c : Cs) : Sp := fun vs H Q _ => ∃ (b co st k j n : Nat) (H0 : Hp) (ks : List (Str × Kd)) (G : Gh) (qk : Str × Kd), vs = [.ref b, .ref co, .str qk.1, .str qk.2.s, .ref st] ∧ LawG c b H0 co ks G (fun _ => True) k H ∧ ks[j]? = some qk ∧ H0 st = some (.lst [.int n]) ∧ n ≤ 40 ∧ G.ne ≤ 9 ∧ Seen G n ∧ k + 3 ≤ 1000000 ∧
  ∀ (H' I : Hp) (t dl cl : Addr) (m : Nat) (dd : List Int), Same H0 I → LawG c b I co ks (G.edit j (freshes n m) dd) (fun C => ∀ y, C.ps[j]? = some y → (∀ z ∈ freshes n m, z ∈ y.P.own) ∧ ∀ z ∈ dd, z ∉ y.P.own) (k + 3) H' → I t = some (.tup [.ref dl, .ref cl]) → LAt I dl dd → LAt I cl (freshes n m) → m ≤ 3 → dd.length ≤ 100 → Q (.ref t) H'
theorem ok_l_edited (T : Txt K mg c) (G_l_take : GF P w K mg base 1 "_law_take" ["_law_bag_here", "_law_many"] spLTake) (G_l_fresh : GF P w K mg base 1 "_law_fresh" ["_law_number"] spLFresh) (G_l_counted_edits : GF P w K mg base 3 "_law_counted_edits" ["_law_edits", "_law_chars", "_law_kind"] spLCounted)
    (G_Text_chars : MF P w K mg base 1 c.tx "chars" ["self"] [] (spTextChars c)) (G_Company_text : MF P w K mg base 3 c.co "text" ["self", "name"] [] (spCoText c)) (G_Company_edit : MF P w K mg base 11 c.co "edit" ["self", "name", "edits"] [] (spCoEdit c)) : GF P w K mg base 12 "_law_edited" ["_law_bag_here", "_law_company", "_law_who", "_law_kind", "_law_state"] (spLEdited c) := by
  refine T.d_l_edited.gf sc_l_edited bi_l_edited (fun vs H Q E h => ?_) (fun f cdv A outer s H vs Q E hr h => ?_)
  · obtain ⟨b, co, st, k, j, n, H0, ks, G, qk, rfl, _⟩ := h
    rfl
  · obtain ⟨b, co, st, k, j, n, H0, ks, G, qk, rfl, hL, hqk, hst, hn, hne, hsee, hk, q⟩ := h
    refine ⟨_, (pss_cons (ps_set (i := 5) sc_l_edited.nd rfl (Or.inl rfl) (pe_mf0 G_Text_chars T.cl_tx hr (pe_mf G_Company_text T.cl_co hr (pv 1) (pa_cons (pv 2) pa_nil))))
      (pss_cons (ps_set (i := 6) sc_l_edited.nd rfl (Or.inl rfl) (pe_gf G_l_take hr (pa_cons (pv 0) (pa_cons (pe_op op_add (pe_callB call_len_seq (by rfl) T.z_len (by decide +kernel) (pa_cons (pv 5) pa_nil)) pe_int) pa_nil))))
      (pss_cons (ps_set (i := 7) sc_l_edited.nd rfl (Or.inl rfl) (pe_op op_add (pv 6) (pe_gf G_l_take hr (pa_cons (pv 0) (pa_cons pe_int pa_nil)))))
      (pss_cons (ps_set (i := 7) sc_l_edited.nd rfl (Or.inl rfl) (pe_ifExp (pt_cmpR op_lt (pv 7) (pe_callB call_len_seq (by rfl) T.z_len (by decide +kernel) (pa_cons (pv 5) pa_nil)) (nomark _)) (pv 7) (pe_callB call_len_seq (by rfl) T.z_len (by decide +kernel) (pa_cons (pv 5) pa_nil))))
      (pss_cons (ps_setLc (i := 8) (own := [("_law_step", 9)]) (g := gName 9) rfl sc_l_edited.nd rfl rfl (sw_true rfl rfl rfl (by decide +kernel)) (pi_range1 (by rfl) T.z_range (pa_cons (pe_gf G_l_take hr (pa_cons (pv 0) (pa_cons pe_int pa_nil))) pa_nil)) (blkOk_by (own := [("_law_step", 9)]) (N := ["_law_bag_here", "_law_company", "_law_who", "_law_kind", "_law_state", "_law_chars", "_law_begin", "_law_last", "_law_some", "_law_step"]) (sc := defScope s_l_edited) (by decide +kernel)) (fun _ _ _ _ _ => pg_name (i := 9) sc_l_edited.nd rfl (by first | exact Or.inl rfl | exact Or.inr rfl)) (fun _ _ _ _ _ => pts_nil) (fun _ _ _ _ _ => (pe_gf G_l_fresh hr (pa_cons (pe_op op_add (pe_ix (ix_listN K) (pv 4) pe_int (fun _ _ => rfl)) (pv 9)) pa_nil))))
      (pss_cons (ps_expr (pe_frm (pe_mf G_Company_edit T.cl_co hr (pv 1) (pa_cons (pv 2) (pa_cons (pe_gf G_l_counted_edits hr (pa_cons (pe_lst (pa_cons (pe_tup (pa_cons (pv 6) (pa_cons (pv 7) (pa_cons (pv 8) pa_nil)))) pa_nil)) (pa_cons (pv 5) (pa_cons (pv 3) pa_nil)))) pa_nil)))))
      (pss_one (ps_ret (pe_tup (pa_cons (pe_slice sl_list (pv 5) (po_some (pv 6)) (po_some (pv 7))) (pa_cons (pv 8) pa_nil))))))))))), ?_⟩
    -- the text
    refine seq_join (fun σ H1 => ∃ (I : Hp) (l : Addr) (y : PgS), σ = [some (.ref b), some (.ref co), some (.str qk.1), some (.str qk.2.s), some (.ref st), some (.ref l), none, none, none, none] ∧ Same H0 I ∧ y.nm = qk.1 ∧ y.k = qk.2 ∧ LAt I l y.P.own ∧ LawG c b I co ks G (fun C => C.ps[j]? = some y) k H1) (fun N hN => ?_) ?_
    · obtain ⟨⟨M, C, r, hc, hI, hkk, hs3, _⟩, hb3⟩ := id hL
      obtain ⟨y, hy, hnm, hkd⟩ := nmk_at hkk hqk
      have hc' := hc.grow (msk_same (M := [b]))
      obtain ⟨p, hp, hpg⟩ := hc'.at_ hy
      have hT := hpg.pr.own.mono msk_same
      obtain ⟨tdx, tl, tv, ht1, ht2⟩ := id hT
      refine ⟨_, rfl, co, r.dx, _, rfl, hc'.ins, rfl, _, rfl, co, M, C, r, y, p, j, by rw [hnm]; rfl, hc', hy, hp, p.r.o, tdx, _, rfl, ht1, rfl, p.r.o, y.P.own, rfl, hT, fun l hl => ?_⟩
      have hL3' : LawG c b H0 co ks G (fun C => C.ps[j]? = some y) k H := ⟨⟨M, C, r, hc, hI, hkk, hs3, hy⟩, hb3⟩
      obtain ⟨I, sI, new, hL4⟩ := hL3'.news (same_upd (o := .lst (y.P.own.map V.int)) hl)
      exact hN _ _ ⟨I, l, y, rfl, sI, hnm, hkd, new l _ hl upd_same, hL4⟩
    rintro σ H1 ⟨I, l, y, rfl, sI, hnm, hkd, hl, hL1⟩
    have hy38 : y.P.own.length ≤ 38 ∧ ∀ z ∈ y.P.own, z ∈ G.seen := by
      obtain ⟨⟨M, C, r, hc, hI, hkk, hs3, hy⟩, _⟩ := id hL1
      have := hI.g.tok (t := y.P.own) fun z => own_le hI.c.s (hI.c.p j y hy) hy z
      exact ⟨this.2.2.1, this.2.1⟩
    refine seq_join (fun σ H2 => ∃ d : Nat, σ = [some (.ref b), some (.ref co), some (.str qk.1), some (.str qk.2.s), some (.ref st), some (.ref l), some (.int d), none, none, none] ∧ d ≤ y.P.own.length ∧ LawG c b I co ks G (fun C => C.ps[j]? = some y) (k + 1) H2) (fun N hN => ?_) ?_
    · refine ⟨_, rfl, _, rfl, l, _, rfl, .inl (SqL.of (hL1.at_ hl)), _, _, rfl, rfl, b, y.P.own.length + 1, k, by rw [List.length_map]; rfl, hL1.2, by omega, by omega, by omega, fun d o hd ho => hN _ _ ⟨d, rfl, by omega, hL1.bag ho⟩⟩
    rintro σ H2 ⟨d0, rfl, hd0, hL2⟩
    refine seq_join (fun σ H3 => ∃ d : Nat, σ = [some (.ref b), some (.ref co), some (.str qk.1), some (.str qk.2.s), some (.ref st), some (.ref l), some (.int d0), some (.int ((d0 + d : Nat) : Int)), none, none] ∧ LawG c b I co ks G (fun C => C.ps[j]? = some y) (k + 2) H3) (fun N hN => ?_) ?_
    · exact ⟨_, rfl, _, rfl, b, 4, k + 1, rfl, hL2.2, by decide, by decide, by omega, fun d o hd ho => ⟨_, _, rfl, rfl, hN _ _ ⟨d, rfl, hL2.bag ho⟩⟩⟩
    rintro σ H3 ⟨d1, rfl, hL3⟩
    refine seq_join (fun σ H4 => ∃ e : Nat, σ = [some (.ref b), some (.ref co), some (.str qk.1), some (.str qk.2.s), some (.ref st), some (.ref l), some (.int d0), some (.int e), none, none] ∧ d0 ≤ e ∧ e ≤ y.P.own.length ∧ H4 = H3) (fun N hN => ?_) ?_
    · refine ⟨_, rfl, _, rfl, l, _, rfl, .inl (SqL.of (hL3.at_ hl)), _, _, rfl, rfl, _, rfl, ?_⟩
      rw [List.length_map]
      by_cases hlt : d0 + d1 < y.P.own.length
      · rw [decide_eq_true (show ((d0 + d1 : Nat) : Int) < (y.P.own.length : Nat) by omega)]
        exact iteT ⟨_, rfl, hN _ _ ⟨d0 + d1, rfl, by omega, by omega, rfl⟩⟩
      · rw [decide_eq_false (show ¬ ((d0 + d1 : Nat) : Int) < (y.P.own.length : Nat) by omega)]
        exact iteF ⟨_, rfl, l, _, rfl, .inl (SqL.of (hL3.at_ hl)), hN _ _ ⟨y.P.own.length, by rw [List.length_map]; rfl, by omega, by omega, rfl⟩⟩
    rintro σ H4 ⟨d2, rfl, hd1, hd2, rfl⟩
    rename Hp => H3
    -- what is put
    refine seq_join (fun σ H4 => ∃ (m : Nat) (cl : Addr) (I' : Hp), σ = [some (.ref b), some (.ref co), some (.str qk.1), some (.str qk.2.s), some (.ref st), some (.ref l), some (.int d0), some (.int d2), some (.ref cl), none] ∧ m ≤ 3 ∧ Same I I' ∧ LAt I' cl (freshes n m) ∧ LawG c b I' co ks G (fun C => C.ps[j]? = some y) (k + 3) H4) (fun N hN => ?_) ?_
    · refine ⟨_, rfl, b, 4, k + 2, rfl, hL3.2, by decide, by decide, by omega, fun d o hd ho => ⟨d, rfl, by omega, by omega, fun D hD => ?_⟩⟩
      have hL4 := hL3.bag ho
      rw [show ((d : Int)).toNat = d by omega]
      refine lc_range (lo := 0) (n := d) (fun i H5 => Same (upd H3 b o) H5 ∧ H5 D = some (.lst ((freshes n i).map V.int))) ⟨same_upd hD, upd_same⟩ ?_ ?_
      · rintro i H5 hi ⟨s5, h5⟩
        have hst5 : H5 st = some (.lst [.int n]) := s5 _ _ (hL4.at_ (sI _ _ hst))
        refine ⟨rfl, yesT ⟨_, rfl, st, _, 0, .int n, rfl, rfl, SqL.of hst5, rfl, _, rfl, _, _, rfl, rfl, n + i, ?_, fun H6 s6 => ⟨_, s6 _ _ h5, szlt _ (by rw [List.length_map, freshes_len]; omega), same_mut (s5.trans s6) hD, ?_⟩⟩⟩
        · show [V.int ((n : Int) + (0 + (i : Int)))] = [V.int ((n + i : Nat) : Int)]
          rw [Int.zero_add, Int.natCast_add]
        · rw [upd_same, freshes_succ, List.map_append]
          rfl
      · rintro H5 ⟨s5, h5⟩
        obtain ⟨I', sI', new, hL5⟩ := hL4.news s5
        exact hN _ _ ⟨d, D, I', rfl, by omega, sI', new D _ hD h5, hL5⟩
    rintro σ H4 ⟨m, cl, I', rfl, hm3, sI', hcl, hL4⟩
    -- the edit
    refine seq_join (fun σ H5 => σ = [some (.ref b), some (.ref co), some (.str qk.1), some (.str qk.2.s), some (.ref st), some (.ref l), some (.int d0), some (.int d2), some (.ref cl), none] ∧ LawG c b I' co ks (G.edit j (freshes n m) ((y.P.own.take d2).drop d0)) (fun C => ∀ y', C.ps[j]? = some y' → (∀ z ∈ freshes n m, z ∈ y'.P.own) ∧ ∀ z ∈ (y.P.own.take d2).drop d0, z ∉ y'.P.own) (k + 3) H5) (fun N hN => ?_) ?_
    · obtain ⟨⟨M, C, r, hc, hI, hkk, hs4, hy⟩, hb4⟩ := id hL4
      have hlF : LAt (Msk H4 [b]) l y.P.own := hL4.1.at_ (sI' _ _ hl)
      have hclF : LAt (Msk H4 [b]) cl (freshes n m) := hL4.1.at_ hcl
      refine ⟨[b], hL4.fbl, _, rfl, co, r.dx, _, rfl, hc.ins, rfl, _, rfl, _, rfl, _, rfl, _, rfl, lk 3 (by decide), fun e he => ⟨lk 1 (by decide), fun el hel => ?_⟩⟩
      have s5 := (same_upd (o := .tup [.int d0, .int d2, .ref cl]) he).trans (same_upd (o := .lst [.ref e]) hel)
      have he5 : upd (upd (Msk H4 [b]) e (.tup [.int d0, .int d2, .ref cl])) el (.lst [.ref e]) e = some (.tup [.int d0, .int d2, .ref cl]) := by
        rw [upd_ne (ne_of_none upd_same hel)]
        exact upd_same
      refine ⟨_, rfl, _, rfl, el, e, cl, l, d0, d2, freshes n m, y.P.own, y.k, by rw [hkd]; rfl, upd_same, he5, hclF.mono s5, hlF.mono s5, hd0, hd2, by omega, fun H6 el' e' cl' s6 h1 h2 h3 => ?_⟩
      have hc6 := hc.grow (s5.trans s6)
      have hn3 : freshes n m |>.Nodup := freshes_nodup (by omega)
      have hfr : ∀ z ∈ freshes n m, z ∉ G.seen := fun z hz hz2 => by
        obtain ⟨i, hi, e1⟩ := freshes_mem hz
        obtain ⟨i2, hi2, e2⟩ := hsee z hz2
        have := fresh_inj (by omega) (by omega) (e1.symm.trans e2)
        omega
      have hok : ∀ z ∈ freshes n m, ChOk z := fun z hz => by
        obtain ⟨i, hi, e1⟩ := freshes_mem hz
        rw [e1]
        exact fresh_ok (by omega)
      have hI2 := hI.edit hy hd1 hd2 hn3 hfr hok (by rw [freshes_len]; exact hm3) hne
      refine ⟨co, el', e', cl', M, C, r, y, j, d0, d2, freshes n m, by rw [hnm]; rfl, hc6, hy, hI.psOk hy, h1, h2, h3, hd1, hd2, by rw [freshes_len]; omega, hok, fun H' M' r' s' h' hf => hN _ _ ⟨rfl, ?_⟩⟩
      refine hL4.back hf ⟨M', _, r', h', hI2, by rw [nmk_set hy (by rfl) (by rfl)]; exact hkk, (hs4.trans (msk_mono (s5.trans s6))).trans s', fun y' hy' => ?_⟩
      rcases setP_at hy hy' with ⟨_, rfl⟩ | ⟨hne2, _⟩
      · refine ⟨fun z hz => ?_, fun z hz => (hI2.g.gn j _ _ z hy' (List.mem_append_right _ (List.mem_singleton.mpr rfl)) hz).1⟩
        show z ∈ app (edD d0 d2 y.P.own.length (freshes n m)) y.P.own
        rw [(edD_app hd1 hd2 rfl).1]
        exact List.mem_append_right _ (List.mem_append_left _ hz)
      · exact absurd rfl hne2
    rintro σ H5 ⟨rfl, hL5⟩
    refine ⟨_, rfl, _, rfl, _, rfl, _, rfl, _, rfl, l, _, rfl, SqL.of (hL5.at_ (sI' _ _ hl)), fun dl hdl => ⟨_, rfl, lk 2 (by decide), fun t ht => ?_⟩⟩
    rw [cut_two V.int y.P.own d0 d2 hd1 hd2] at ht ⊢
    obtain ⟨I2, sI2, new, hL6⟩ := hL5.news ((same_upd (o := .lst (((y.P.own.take d2).drop d0).map V.int)) hdl).trans (same_upd (o := .tup [.ref dl, .ref cl]) ht))
    have ndt : dl ≠ t := ne_of_none upd_same ht
    refine q _ I2 t dl cl m _ ((sI.trans sI').trans sI2) hL6 (new t _ ((same_upd hdl).free ht) upd_same) (new dl _ hdl (by rw [upd_ne ndt, upd_same])) (hcl.mono sI2) hm3 ?_
    rw [List.length_drop, List.length_take]
    omega
end
end Tc
/-! # The walks: what is asked at the end -/
namespace Tc
open PySem PySem.Spec PyProof.Rows L2
theorem shaped_two (i j : Int) : SeqAt.shaped (.tuple [.int i, .int j]) = true := by
  simp [SeqAt.shaped, PyData.canLay0, PyData.canLayAll0, PyData.depth, PyData.depthAll]
theorem cut_to {α : Type} (f : α → V) (xs : List α) (a : Nat) (h1 : a ≤ xs.length) : cutV (xs.map f) none (some (a : Int)) = (xs.take a).map f := by
  unfold cutV
  rw [HT.sIx_nat, HT.sIx_none, List.length_map, Nat.min_eq_left h1, List.drop_zero, Nat.sub_zero, ← List.map_take]
theorem nodup_take {t : List Int} (h : t.Nodup) {i : Nat} {x : Int} (hx : t[i]? = some x) : x ∉ t.take i := fun z => by
  obtain ⟨j, hj⟩ := List.getElem?_of_mem z
  have hl := (List.getElem?_eq_some_iff.mp hj).1
  rw [List.length_take] at hl
  rw [List.getElem?_take_of_lt (by omega)] at hj
  exact nodup_at h hj hx (by omega) rfl
section
variable {P : Program} {w : World} {K : PySem.W.Frag} {mg : Str → Option Value} {base : Heap} {c : Cs}
/- _law_end_right: 0 _law_company, 1 _law_some, 2 _law_seen (cell), 3 _law_gone (cell), 4 _law_lists, 5 _law_chars (cell), 6 _law_who, 7 _law_at, 8 _law_char, 9 _law_row -/
theorem sc_l_end_right : FnScope ["_law_company", "_law_some", "_law_seen", "_law_gone", "_law_lists", "_law_chars", "_law_who", "_law_at", "_law_char", "_law_row"] ["_law_company", "_law_some", "_law_seen", "_law_gone", "_law_lists"] (defScope s_l_end_right) := ⟨rfl, rfl, rfl, by decide +kernel, rfl, by decide +kernel, by decide +kernel⟩
theorem bi_l_end_right : BindsB "_law_end_right" "_law_end_right" s_l_end_right ["_law_company", "_law_some", "_law_seen", "_law_gone", "_law_lists"] := fun _ _ _ _ _ _ us hl => match us, hl with | [_, _, _, _, _], _ => rfl
def spLEnd (c : Cs) : Sp := fun vs H Q _ => ∃ (co sl se go li : Addr) (M : List Addr) (C : CoS) (r : CoR) (G : Gh) (ks : List (Str × Kd)) (gone : List Int) (as : List Addr), vs = [.ref co, .ref sl, .ref se, .ref go, .ref li] ∧ CoAt c H M co C r ∧ Inv C G ∧ quietB C = true ∧ nmk C = ks ∧ GIx ks.length G ∧ 0 < ks.length ∧
  H sl = some (.lst (nmsV ks)) ∧ LAt H se G.seen ∧ LAt H go gone ∧ (∀ z ∈ gone, Gone G z) ∧ (∀ z, Gone G z → z ∈ gone) ∧ H li = some (.lst (as.map V.ref)) ∧ Paired (LAt H) as (G.rows.map (·.2)) ∧ ∀ H', Same H H' → Q (.bl true) H'
theorem ok_l_end_right (T : Txt K mg c) (G_l_in_order : GF P w K mg base 1 "_law_in_order" ["_law_chars", "_law_some"] spLOrder) (G_Text_chars : MF P w K mg base 1 c.tx "chars" ["self"] [] (spTextChars c)) (G_Company_is_quiet : PF P w K mg base 1 c.co "is_quiet" (spCoQuiet c))
    (G_Company_server_text : MF P w K mg base 4 c.co "server_text" ["self", "version"] [.non] (spCoSText c)) (G_Company_text : MF P w K mg base 3 c.co "text" ["self", "name"] [] (spCoText c)) (G_Company_base : MF P w K mg base 3 c.co "base" ["self", "name"] [] (spCoBase c))
    (G_Company_version_of : MF P w K mg base 3 c.co "version_of" ["self", "name"] [] (spCoVer c)) (G_Company_version : PF P w K mg base 1 c.co "version" (spCoVersion c)) (G_Company_queues : MF P w K mg base 3 c.co "queues" ["self", "name"] [] (spCoQ c)) : GF P w K mg base 5 "_law_end_right" ["_law_company", "_law_some", "_law_seen", "_law_gone", "_law_lists"] (spLEnd c) := by
  refine T.d_l_end_right.gf sc_l_end_right bi_l_end_right (fun vs H Q E h => ?_) (fun f cdv A outer s H vs Q E hr h => ?_)
  · obtain ⟨co, sl, se, go, li, M, C, r, G, ks, gone, as, rfl, _⟩ := h
    rfl
  · obtain ⟨co, sl, se, go, li, M, C, r, G, ks, gone, as, rfl, hc, hI, hq, hkk, hgx, hk0, hsl, hse, hgo, hg1, hg2, hli, hrows, q⟩ := h
    refine ⟨_, (pss_cons (ps_if (pt_cmpR op_notBl (pe_pf G_Company_is_quiet T.cl_co hr (pv 0)) pe_bl (nomark _)) (pss_one (ps_ret pe_bl)) pss_nil)
      (pss_cons (ps_set (i := 5) sc_l_end_right.nd rfl (Or.inr rfl) (pe_mf0 G_Text_chars T.cl_tx hr (pe_mf0 G_Company_server_text T.cl_co hr (pv 0))))
      (pss_cons (ps_for PassesOwn.never rfl (pi_listN K (pv 1)) (pg_name (i := 6) sc_l_end_right.nd rfl (Or.inl rfl))
      (pss_cons (ps_if (PW.pt (pw_or (pt_cmpR (op_neD (hu64 hr)) (pe_mf0 G_Text_chars T.cl_tx hr (pe_mf G_Company_text T.cl_co hr (pv 0) (pa_cons (pv 6) pa_nil))) (pv 5) (nomark _)) (pw_or1 (pt_cmpR (op_neD (hu64 hr)) (pe_mf0 G_Text_chars T.cl_tx hr (pe_mf G_Company_base T.cl_co hr (pv 0) (pa_cons (pv 6) pa_nil))) (pv 5) (nomark _))))) (pss_one (ps_ret pe_bl)) pss_nil)
      (pss_one (ps_if (PW.pt (pw_or (pt_cmpR op_ne (pe_mf G_Company_version_of T.cl_co hr (pv 0) (pa_cons (pv 6) pa_nil)) (pe_pf G_Company_version T.cl_co hr (pv 0)) (nomark _)) (pw_or1 (pt_cmpR (op_neD (hu64 hr)) (pe_mf G_Company_queues T.cl_co hr (pv 0) (pa_cons (pv 6) pa_nil)) (pe_tup (pa_cons pe_int (pa_cons pe_int pa_nil))) (nomark _))))) (pss_one (ps_ret pe_bl)) pss_nil))))
      (pss_cons (ps_if (pt_cmpR (op_neNil hr.units0) (pe_lc (own := [("_law_at", 7), ("_law_char", 8)]) (g := gTup K 2 (gCons (gName 7) (gCons (gName 8) gNil))) rfl sc_l_end_right.nd (pi_enum (by rfl) T.z_enumerate (pa_cons (pv 5) pa_nil)) (blkOk_by (own := [("_law_at", 7), ("_law_char", 8)]) (N := ["_law_company", "_law_some", "_law_seen", "_law_gone", "_law_lists", "_law_chars", "_law_who", "_law_at", "_law_char", "_law_row"]) (sc := defScope s_l_end_right) (by decide +kernel)) (fun _ _ _ _ _ => (pg_tupN K rfl (pgs_cons (pg_name (i := 7) sc_l_end_right.nd rfl (by first | exact Or.inl rfl | exact Or.inr rfl)) (pgs_cons (pg_name (i := 8) sc_l_end_right.nd rfl (by first | exact Or.inl rfl | exact Or.inr rfl)) pgs_nil)))) (fun _ _ _ _ _ => (pts_one (PW.pt (pw_or (pt_cmpR (op_in_seqN K) (pv 8) (pe_slice (sl_listN K) (pv 5) po_none (po_some (pv 7))) (by rfl)) (pw_or (pt_cmpR (op_notIn_seqN K) (pv 8) (pv 2) (by rfl)) (pw_or1 (pt_cmpR (op_in_seqN K) (pv 8) (pv 3) (by rfl)))))))) (fun _ _ _ _ _ => (pv 8))) (pe_lst pa_nil) (nomark _)) (pss_one (ps_ret pe_bl)) pss_nil)
      (pss_cons (ps_if (pt_cmpR (op_neNil hr.units0) (pe_lc (own := [("_law_char", 8)]) (g := gName 8) rfl sc_l_end_right.nd (pi_listN K (pv 2)) (blkOk_by (own := [("_law_char", 8)]) (N := ["_law_company", "_law_some", "_law_seen", "_law_gone", "_law_lists", "_law_chars", "_law_who", "_law_at", "_law_char", "_law_row"]) (sc := defScope s_l_end_right) (by decide +kernel)) (fun _ _ _ _ _ => pg_name (i := 8) sc_l_end_right.nd rfl (by first | exact Or.inl rfl | exact Or.inr rfl)) (fun _ _ _ _ _ => (pts_one (PW.pt (pw_and (pt_cmpR (op_notIn_seqN K) (pv 8) (pv 3) (by rfl)) (pw_and1 (pt_cmpR (op_notIn_seqN K) (pv 8) (pv 5) (by rfl))))))) (fun _ _ _ _ _ => (pv 8))) (pe_lst pa_nil) (nomark _)) (pss_one (ps_ret pe_bl)) pss_nil)
      (pss_one (ps_ret (pe_cmpR (op_eqNil hr.units0) (pe_lc (own := [("_law_row", 9)]) (g := gName 9) rfl sc_l_end_right.nd (pi_listN K (pv 4)) (blkOk_by (own := [("_law_row", 9)]) (N := ["_law_company", "_law_some", "_law_seen", "_law_gone", "_law_lists", "_law_chars", "_law_who", "_law_at", "_law_char", "_law_row"]) (sc := defScope s_l_end_right) (by decide +kernel)) (fun _ _ _ _ _ => pg_name (i := 9) sc_l_end_right.nd rfl (by first | exact Or.inl rfl | exact Or.inr rfl)) (fun _ _ _ _ _ => (pts_one (pt_not (pt_val (pe_gf G_l_in_order hr (pa_cons (pv 5) (pa_cons (pv 9) pa_nil))))))) (fun _ _ _ _ _ => (pv 9))) (pe_lst pa_nil) (nomark _))))))))), ?_⟩
    have E := hI.ends (by rw [nmk_len hkk]; exact hgx) (by rw [nmk_len hkk]; exact hk0) hq
    have htk := hI.g.tok (t := C.S.tx C.S.deltas.length) fun z => tx_le hI.c.s z (Nat.le_refl _)
    have htx : C.S.texts[C.S.texts.length - 1]? = some (C.S.tx C.S.deltas.length) := by
      have hn := hI.c.s.n
      unfold SV.tx
      rw [List.getD_eq_getElem?_getD, hn, Nat.add_sub_cancel, List.getElem?_eq_getElem (by omega)]
      rfl
    generalize C.S.tx C.S.deltas.length = t at *
    -- quiet
    refine seq_join (fun σ H1 => σ = [some (.ref co), some (.ref sl), some (.ref se), some (.ref go), some (.ref li), none, none, none, none, none] ∧ Same H H1) (fun N hN => ?_) ?_
    · refine ⟨_, rfl, co, r.dx, _, rfl, hc.ins, co, M, C, r, rfl, hc, fun H1 s1 => ⟨quietB C, true, rfl, rfl, _, rfl, ?_⟩⟩
      rw [hq]
      exact iteF (hN _ _ ⟨rfl, s1⟩)
    rintro σ H1 ⟨rfl, s1⟩
    -- the server's text
    refine seq_join (fun σ H2 => ∃ ch, σ = [some (.ref co), some (.ref sl), some (.ref se), some (.ref go), some (.ref li), some (.ref ch), none, none, none, none] ∧ Same H H2 ∧ LAt H2 ch t) (fun N hN => ?_) ?_
    · have hc1 := hc.grow s1
      obtain ⟨a, t2, ha, ht2, hT⟩ := hc1.sv.last (fun z => by rw [z] at htx; simp at htx)
      obtain rfl := Option.some.inj (ht2.symm.trans htx)
      obtain ⟨tdx, tl, tv, e1, e2⟩ := hT.mono msk_same
      refine ⟨_, rfl, co, r.dx, _, rfl, hc1.ins, rfl, co, M, C, r, a, rfl, hc1, ha, a, tdx, _, rfl, e1, rfl, a, t2, rfl, hT.mono msk_same, fun l hl => hN _ _ ⟨l, rfl, s1.trans (same_upd hl), upd_same⟩⟩
    rintro σ H2 ⟨ch, rfl, s2, hch⟩
    clear s1 H1
    have hnl : (nmsV ks).length = ks.length := by unfold nmsV; rw [List.length_map]
    refine seq_join (fun σ H3 => ∃ v6, σ = [some (.ref co), some (.ref sl), some (.ref se), some (.ref go), some (.ref li), some (.ref ch), v6, none, none, none] ∧ Same H2 H3) (fun N hN => ?_) ?_
    · refine ⟨_, rfl, sl, rfl, ⟨_, SqL.of (s2 _ _ hsl)⟩, for_list (K := K) (a := sl) (xs := nmsV ks) (fun i σ H3 => ∃ v6, σ = [some (.ref co), some (.ref sl), some (.ref se), some (.ref go), some (.ref li), some (.ref ch), v6, none, none, none] ∧ Same H2 H3) ⟨none, rfl, same_refl⟩ ?_ ?_ ?_⟩
      · rintro i σ H3 _ ⟨v6, rfl, s3⟩
        exact SqL.of (s3 _ _ (s2 _ _ hsl))
      · rintro i x σ H3 hx ⟨v6, rfl, s3⟩
        obtain ⟨qk, hqk, rfl⟩ := lmap_at hx
        obtain ⟨y, hy, hnm, _⟩ := nmk_at hkk hqk
        obtain ⟨y1, y2, y3, y4, y5⟩ := E.v y (List.mem_of_getElem? hy)
        have s03 := s2.trans s3
        refine seq_join (fun σ H4 => σ = [some (.ref co), some (.ref sl), some (.ref se), some (.ref go), some (.ref li), some (.ref ch), some (.str qk.1), none, none, none] ∧ Same H2 H4) (fun N2 hN2 => ?_) ?_
        · have hc3 := hc.grow s03
          obtain ⟨p, hp, hpg⟩ := hc3.at_ hy
          have hT := hpg.pr.own.mono msk_same
          rw [y3] at hT
          obtain ⟨tdx, tl, tv, e1, e2⟩ := id hT
          refine ⟨_, rfl, co, r.dx, _, rfl, hc3.ins, rfl, _, rfl, co, M, C, r, y, p, i, by rw [hnm]; rfl, hc3, hy, hp, p.r.o, tdx, _, rfl, e1, rfl, p.r.o, t, rfl, hT, fun l hl => ?_⟩
          have sl4 := same_upd (o := .lst (t.map V.int)) hl
          refine ⟨_, rfl, _, _, dp_ints upd_same, dp_ints (sl4 _ _ (s3 _ _ hch)), PySem.W.ke_shaped_ints _, PySem.W.ke_shaped_ints _, _, rfl, ?_⟩
          rw [eqv_ints, decide_eq_true rfl]
          refine iteF ?_
          have hc4 := hc3.grow sl4
          have hTb := (hpg.pr.base.mono msk_same).mono sl4
          rw [y2] at hTb
          obtain ⟨tdx2, tl2, tv2, b1, b2⟩ := id hTb
          refine ⟨_, rfl, co, r.dx, _, rfl, hc4.ins, rfl, _, rfl, co, M, C, r, y, p, i, by rw [hnm]; rfl, hc4, hy, hp, p.r.b, tdx2, _, rfl, b1, rfl, p.r.b, t, rfl, hTb, fun l2 hl2 => ?_⟩
          have sl5 := sl4.trans (same_upd (o := .lst (t.map V.int)) hl2)
          refine ⟨_, rfl, _, _, dp_ints upd_same, dp_ints (sl5 _ _ (s3 _ _ hch)), PySem.W.ke_shaped_ints _, PySem.W.ke_shaped_ints _, _, rfl, ?_⟩
          rw [eqv_ints, decide_eq_true rfl]
          exact iteF (hN2 _ _ ⟨rfl, s3.trans sl5⟩)
        rintro σ H4 ⟨rfl, s4⟩
        have hc4 := hc.grow (s2.trans s4)
        obtain ⟨p, hp, hpg⟩ := hc4.at_ hy
        refine ⟨_, rfl, co, r.dx, _, rfl, hc4.ins, rfl, _, rfl, co, M, C, r, y, p, i, by rw [hnm]; rfl, hc4, hy, hp, _, rfl, co, r.dx, _, rfl, hc4.ins, co, M, C, r, rfl, hc4, rfl, _, rfl, ?_⟩
        rw [y1, decide_eq_true rfl]
        refine iteF ⟨_, rfl, co, r.dx, _, rfl, hc4.ins, rfl, _, rfl, co, M, C, r, y, i, by rw [hnm]; rfl, hc4, hy, fun t1 ht1 => ⟨lk 2 (by decide), fun t2 ht2 => ?_⟩⟩
        have e1 : upd (upd H4 t1 (.tup [.int (y.up.length : Nat), .int (y.dn.length : Nat)])) t2 (.tup [.int 0, .int 0]) t1 = some (.tup [.int 0, .int 0]) := by
          rw [upd_ne (ne_of_none upd_same ht2), upd_same, y4, y5]
          rfl
        refine ⟨_, _, .tup (SqT.of e1) (.cons (.int 0) (.cons (.int 0) .nil)), .tup (SqT.of upd_same) (.cons (.int 0) (.cons (.int 0) .nil)), shaped_two 0 0, shaped_two 0 0, _, rfl, ?_⟩
        rw [show PyData.eqv (.tuple [.int 0, .int 0]) (.tuple [.int 0, .int 0]) = true by decide +kernel]
        exact iteF ⟨_, rfl, s4.trans ((same_upd ht1).trans (same_upd ht2))⟩
      · rintro σ H3 ⟨v6, rfl, s3⟩
        exact hN _ _ ⟨v6, rfl, s3⟩
    rintro σ H3 ⟨v6, rfl, s3⟩
    have hch3 : LAt H3 ch t := hch.mono s3
    have s03 := s2.trans s3
    have hse3 := hse.mono s03
    have hgo3 := hgo.mono s03
    -- each just once, seen, not gone
    refine seq_join (fun σ H4 => σ = [some (.ref co), some (.ref sl), some (.ref se), some (.ref go), some (.ref li), some (.ref ch), v6, none, none, none] ∧ Same H3 H4) (fun N hN => ?_) ?_
    · refine ⟨_, rfl, ch, _, rfl, SqL.of hch3, fun D hD => ?_⟩
      refine lc_it (walk_enum (K := K) (a := ch) (xs := t.map V.int)) (fun i H4 => Same H3 H4 ∧ H4 D = some (.lst [])) ⟨same_upd hD, upd_same⟩ (fun i H4 _ z => SqL.of (z.1 _ _ hch3)) ?_ ?_
      · rintro i yv H4 H5 hi ⟨s4, h4⟩ ⟨T0, y1, y2, rfl, hT, rfl, e1, e2⟩
        cases e1
        have e2 : (t.map V.int)[i]? = some y2 := e2
        obtain ⟨x, hx, rfl⟩ := map_at_int e2
        obtain ⟨E1, E2⟩ := E.s x (List.mem_of_getElem? hx)
        have sT := same_upd (o := .tup [.int (i : Nat), .int x]) hT
        have s5 := s4.trans sT
        refine ⟨T0, _, rfl, SqT.of upd_same, rfl, _, _, rfl, _, _, rfl, rfl, rfl, _, rfl, _, rfl, _, rfl, _, rfl, ch, _, rfl, SqL.of (s5 _ _ hch3), fun sp hsp => ?_⟩
        rw [cut_to V.int t i (by have := (List.getElem?_eq_some_iff.mp hx).1; omega)]
        have s6 := s5.trans (same_upd (o := .lst ((t.take i).map V.int)) hsp)
        refine ⟨sp, _, rfl, .inl (SqL.of upd_same), rfl, flat_ints _, _, rfl, ?_⟩
        show if inV (.int x) ((t.take i).map V.int) = true then _ else _
        rw [inV_ints, decide_eq_false (nodup_take E.nd hx)]
        refine iteF ⟨_, rfl, _, rfl, se, _, rfl, .inl (SqL.of (s6 _ _ hse3)), rfl, flat_ints _, _, rfl, ?_⟩
        show if (!inV (.int x) (G.seen.map V.int)) = true then _ else _
        rw [inV_ints, decide_eq_true E1]
        refine iteF ⟨_, rfl, _, rfl, go, _, rfl, .inl (SqL.of (s6 _ _ hgo3)), rfl, flat_ints _, _, rfl, ?_⟩
        show if inV (.int x) (gone.map V.int) = true then _ else _
        rw [inV_ints, decide_eq_false fun z => E2 (hg1 x z)]
        exact iteF ⟨s6, (same_upd hsp) _ _ (sT _ _ h4)⟩
      · rintro H4 ⟨s4, h4⟩
        refine ⟨lk 0 (by decide), fun e he => ⟨D, e, [], rfl, rfl, SqL.of ((same_upd he) _ _ h4), SqL.of upd_same, _, rfl, iteF (hN _ _ ⟨rfl, s4.trans (same_upd he)⟩)⟩⟩
    rintro σ H4 ⟨rfl, s4⟩
    have hch4 := hch3.mono s4
    have hse4 := hse3.mono s4
    have hgo4 := hgo3.mono s4
    -- all that was seen and is not gone
    refine seq_join (fun σ H5 => σ = [some (.ref co), some (.ref sl), some (.ref se), some (.ref go), some (.ref li), some (.ref ch), v6, none, none, none] ∧ Same H4 H5) (fun N hN => ?_) ?_
    · refine ⟨_, rfl, se, rfl, ⟨_, SqL.of hse4⟩, fun D hD => ?_⟩
      refine flt_it (K := K) (fun _ => false) hse4 hD (by show 8 < 10; decide) (by have := hI.g.sl; have := hI.g.n10; omega) (fun x H5 R hx s5 hR => ?_) (fun H5 s5 h5 => ?_)
      · refine ⟨_, rfl, _, rfl, go, _, rfl, .inl (SqL.of (s5 _ _ hgo4)), rfl, flat_ints _, _, rfl, ?_⟩
        show if (!inV (.int x) (gone.map V.int)) = true then _ else _
        rw [inV_ints]
        by_cases hg : x ∈ gone
        · rw [decide_eq_true hg]
          exact iteF (hR H5 same_refl)
        · rw [decide_eq_false hg]
          refine iteT ⟨_, rfl, _, rfl, ch, _, rfl, .inl (SqL.of (s5 _ _ hch4)), rfl, flat_ints _, _, rfl, ?_⟩
          show R (!inV (.int x) (t.map V.int)) H5
          rw [inV_ints, decide_eq_true (E.a x hx fun z => hg (hg2 x z))]
          exact hR H5 same_refl
      · rw [List.filter_eq_nil_iff.mpr (fun _ _ => Bool.false_ne_true)] at h5
        exact ⟨lk 0 (by decide), fun e he => ⟨D, e, [], rfl, rfl, SqL.of ((same_upd he) _ _ h5), SqL.of upd_same, _, rfl, iteF (hN _ _ ⟨rfl, s5.trans (same_upd he)⟩)⟩⟩
    rintro σ H5 ⟨rfl, s5⟩
    have s45 := s4.trans s5
    have hch5 := hch3.mono s45
    have hli5 := s45 _ _ (s03 _ _ hli)
    refine ⟨_, rfl, li, rfl, ⟨_, SqL.of hli5⟩, fun D hD => ?_⟩
    refine lc_list (K := K) (a := li) (xs := as.map V.ref) (fun i H6 => Same H5 H6 ∧ H6 D = some (.lst [])) ⟨same_upd hD, upd_same⟩ (fun i H6 _ z => SqL.of (z.1 _ _ hli5)) ?_ ?_
    · rintro i yv H6 hy ⟨s6, h6⟩
      obtain ⟨a, ha, rfl⟩ := lmap_at hy
      obtain ⟨row, hrow, hra⟩ := pr_at2 hrows ha
      rw [List.getElem?_map] at hrow
      obtain ⟨qr, hqr, rfl⟩ := Option.map_eq_some_iff.mp hrow
      have ho := E.o qr.1 qr.2 (List.mem_of_getElem? hqr)
      have hrl : qr.2.length ≤ 1000 := by
        have h1 := hI.g.sl
        have h2 := hI.g.n10
        have h3 : qr.2.length ≤ G.seen.length := len_sub (nodup_flat hI.g.nd (List.mem_of_getElem? hqr)) fun x hx => List.mem_flatMap.mpr ⟨_, List.mem_of_getElem? hqr, hx⟩
        omega
      refine ⟨rfl, _, rfl, _, rfl, ch, a, t, qr.2, rfl, hch5.mono s6, hra.mono ((s03.trans s45).trans s6), by omega, hrl, fun H7 s7 => ⟨_, rfl, ?_⟩⟩
      rw [decide_eq_true ho]
      exact iteF ⟨s6.trans s7, s7 _ _ h6⟩
    · rintro H6 ⟨s6, h6⟩
      refine ⟨lk 0 (by decide), fun e he => ⟨D, e, [], rfl, rfl, SqL.of ((same_upd he) _ _ h6), SqL.of upd_same, ?_⟩⟩
      exact q _ ((((s03.trans s45).trans s6)).trans (same_upd he))
end
end Tc
/-! # The law's own records -/
namespace Tc
open PySem PySem.Spec PyProof.Rows L2
theorem mk_text' {c : Cs} {H : Hp} {a x dx : Addr} {t : List Int} {R : V → Hp → Prop} (ha : LAt H a t) (hc : ∀ y ∈ t, ChOk y) (hn : t.length ≤ 100000) (nx : H x = none) (nd : H dx = none) (ne : dx ≠ x) (q : ∀ H', Same H H' → TextAt c H' x t → R .non H') :
    spTextInit c [.ref x, .ref a] (upd (upd H dx (.own x)) x (.ins c.tx dx [])) R E0 := by
  have s1 : Same H (upd (upd H dx (.own x)) x (.ins c.tx dx [])) := fun b o e => by
    rw [upd_ne (ne_of_none e nx), upd_ne (ne_of_none e nd)]
    exact e
  refine ⟨x, dx, a, t, rfl, upd_same, s1 _ _ ha, hc, hn, fun H' l v k hl hx hL => ?_⟩
  have s2 : Same H H' := fun b o e => k b o (s1 _ _ e) (ne_of_none e nx)
  exact q H' s2 ⟨dx, l, v, hx, hL⟩
theorem mk_co' {c : Cs} {H : Hp} {x y dx : Addr} {t : List Int} {R : V → Hp → Prop} (hx : TextAt c H x t) (ny : H y = none) (nd : H dx = none) (ne : dx ≠ y) (q : ∀ H' M' r', Same H (Msk H' M') → CoAt c H' M' y ⟨⟨[t], [], []⟩, []⟩ r' → R .non H') :
    spCoInit c [.ref y, .ref x] (upd (upd H dx (.own y)) y (.ins c.co dx [])) R E0 := by
  have s1 : Same H (Msk (upd (upd H dx (.own y)) y (.ins c.co dx [])) [y]) := fun b o e => by
    have n1 := ne_of_none e ny
    rw [msk_at (by simpa using n1), upd_ne n1, upd_ne (ne_of_none e nd)]
    exact e
  exact ⟨y, dx, x, t, rfl, upd_same, hx.mono s1, fun H' M' r' s' h' => q H' M' r' (s1.trans s') h'⟩
theorem gone_edit {G : Gh} {i : Nat} {cs dd : List Int} (z : Int) : Gone (G.edit i cs dd) z ↔ Gone G z ∨ z ∈ dd := by
  constructor
  · rintro ⟨k, row, h1, h2⟩
    rcases List.mem_append.mp h1 with h1 | h1
    · exact .inl ⟨k, row, h1, h2⟩
    · obtain ⟨_, rfl⟩ := Prod.mk.inj (List.mem_singleton.mp h1)
      exact .inr h2
  · rintro (⟨k, row, h1, h2⟩ | h1)
    · exact ⟨k, row, List.mem_append_left _ h1, h2⟩
    · exact ⟨i, dd, List.mem_append_right _ (List.mem_singleton.mpr rfl), h1⟩
/-- the law's lists -/
structure Rec (I : Hp) (G : Gh) (se go li st : Addr) (i : Nat) : Prop where
  se : LAt I se G.seen
  go : ∃ gone, LAt I go gone ∧ (∀ z ∈ gone, Gone G z) ∧ (∀ z, Gone G z → z ∈ gone) ∧ gone.length ≤ 100 * i
  li : ∃ as : List Addr, I li = some (.lst (as.map V.ref)) ∧ Paired (LAt I) as (G.rows.map (·.2)) ∧ as.length ≤ i + 1
  st : ∃ n : Nat, I st = some (.lst [.int n]) ∧ Seen G n ∧ n ≤ 8 + 3 * i
  ne : G.ne = i
theorem Rec.mono {I I' : Hp} {G : Gh} {se go li st : Addr} {i : Nat} (h : Rec I G se go li st i) (s : Same I I') : Rec I' G se go li st i := by
  obtain ⟨h1, ⟨gone, g1, g2⟩, ⟨as, l1, l2, l3⟩, ⟨n, n1, n2⟩, h5⟩ := h
  exact ⟨h1.mono s, ⟨gone, g1.mono s, g2⟩, ⟨as, s _ _ l1, pr_imp (fun _ _ z => z.mono s) l2, l3⟩, ⟨n, s _ _ n1, n2⟩, h5⟩
/-! ## The names and the kinds -/
def nms : List Str := ["a", "bb", "ccc", "dddd"]
theorem nms_ok {i : Nat} {x : Str} (h : nms[i]? = some x) : NmOk x := by
  match i, h with
  | 0, h => exact .inl (Option.some.inj h).symm
  | 1, h => exact .inr (.inl (Option.some.inj h).symm)
  | 2, h => exact .inr (.inr (.inl (Option.some.inj h).symm))
  | 3, h => exact .inr (.inr (.inr (Option.some.inj h).symm))
theorem nms_nd : nms.Nodup := by decide +kernel
def kdOf : Nat → Kd
  | 0 => .bytes
  | 1 => .units
  | _ => .chars
theorem kds_at {d : Nat} (h : d < 3) : ([.str "bytes", .str "units", .str "chars"] : List V)[d]? = some (.str (kdOf d).s) := by
  match d, h with
  | 0, _ => rfl
  | 1, _ => rfl
  | 2, _ => rfl
theorem nmk0 (t : List Int) (kk : List (Str × Kd)) : nmk (coS0 t kk) = kk := by
  unfold nmk coS0
  rw [List.map_map]
  exact List.map_id _
theorem co_joined (t : List Int) (kk : List (Str × Kd)) (nm : Str) (k : Kd) : (coS0 t kk).joined nm k t = coS0 t (kk ++ [(nm, k)]) := by
  unfold CoS.joined coS0
  rw [List.map_append]
  rfl
theorem kvOf_put {kk : List (Str × Kd)} {nm : Str} {k : Kd} (h : nm ∉ kk.map (·.1)) : putK (kvOf kk) (.inr nm) (.str k.s) = kvOf (kk ++ [(nm, k)]) := by
  rw [putK_new]
  · unfold kvOf
    rw [List.map_append]
    rfl
  · unfold valV
    rw [Option.map_eq_none_iff, List.find?_eq_none]
    intro kv hkv e
    obtain ⟨q, hq, rfl⟩ := List.mem_map.mp hkv
    have e := of_decide_eq_true e
    exact h (List.mem_map.mpr ⟨q, hq, Sum.inr.inj e⟩)
theorem nodup_pre {l : List Str} (h : l.Nodup) {i : Nat} {x : Str} (hx : l[i]? = some x) : x ∉ l.take i := fun z => by
  obtain ⟨j, hj⟩ := List.getElem?_of_mem z
  have hl := (List.getElem?_eq_some_iff.mp hj).1
  rw [List.length_take] at hl
  rw [List.getElem?_take_of_lt (by omega)] at hj
  exact nodup_at h hj hx (by omega) rfl
/-- two cells aside, the second a new one -/
theorem msk_more {H : Hp} {b kd : Addr} (h : H kd = none) (o : HO) : Msk (upd H kd o) [b, kd] = Msk H [b] := by
  funext a
  by_cases h1 : a = b
  · subst h1
    rw [msk_in (by simp), msk_in (by simp)]
  · by_cases h2 : a = kd
    · subst h2
      rw [msk_in (by simp), msk_at (by simpa using h1), h]
    · rw [msk_at (by simp; exact ⟨h1, h2⟩), msk_at (by simpa using h1), upd_ne h2]
/-- the company, the bag, and the dict of kinds that is being made -/
structure JoinG (c : Cs) (b kd : Addr) (I : Hp) (co : Addr) (t : List Int) (kk : List (Str × Kd)) (k : Nat) (H : Hp) : Prop where
  co : CoG c I co kk (gh0 t) (fun C => C = coS0 t kk) (Msk H [b, kd])
  bag : BagAt H b k
  kd : H kd = some (.dK (kvOf kk))
theorem JoinG.at_ {c : Cs} {b kd : Addr} {I : Hp} {co : Addr} {t : List Int} {kk : List (Str × Kd)} {k : Nat} {H : Hp} (h : JoinG c b kd I co t kk k H) {a : Addr} {o : HO} (e : I a = some o) : H a = some o := msk_same _ _ (h.co.at_ e)
theorem JoinG.fbl {c : Cs} {b kd : Addr} {I : Hp} {co : Addr} {t : List Int} {kk : List (Str × Kd)} {k : Nat} {H : Hp} (h : JoinG c b kd I co t kk k H) : ∀ y ∈ [b, kd], Fbl H y := fun y hy => by
  simp only [List.mem_cons, List.not_mem_nil, or_false] at hy
  rcases hy with z | z
  · subst z
    obtain ⟨o, h2, z, y2, j, rfl, _⟩ := h.bag
    exact .inl ⟨_, h2⟩
  · subst z
    exact .inr ⟨_, h.kd⟩
theorem JoinG.grow {c : Cs} {b kd : Addr} {I : Hp} {co : Addr} {t : List Int} {kk : List (Str × Kd)} {k : Nat} {H H' : Hp} (h : JoinG c b kd I co t kk k H) (s : Same H H') : JoinG c b kd I co t kk k H' := by
  obtain ⟨o, e, ho⟩ := h.bag
  exact ⟨h.co.grow (msk_mono s), ⟨o, s _ _ e, ho⟩, s _ _ h.kd⟩
theorem JoinG.start {c : Cs} {b kd : Addr} {I : Hp} {co : Addr} {t : List Int} {k : Nat} {H : Hp} (h : LawG c b I co [] (gh0 t) (fun C => C = coS0 t []) k H) (hk : H kd = none) : JoinG c b kd I co t [] k (upd H kd (.dK [])) := by
  refine ⟨?_, (h.grow (same_upd hk)).2, upd_same⟩
  rw [msk_more hk]
  exact h.1
theorem JoinG.bagO {c : Cs} {b kd : Addr} {I : Hp} {co : Addr} {t : List Int} {kk : List (Str × Kd)} {k k' : Nat} {H : Hp} {o : HO} (h : JoinG c b kd I co t kk k H) (ho : BagO k' o) : JoinG c b kd I co t kk k' (upd H b o) := by
  refine ⟨?_, ⟨o, upd_same, ho⟩, ?_⟩
  · rw [msk_mut (by simp)]
    exact h.co
  · have nb : kd ≠ b := fun z => by
      obtain ⟨o2, e, _, _, _, rfl, _⟩ := h.bag
      have := h.kd
      rw [z, e] at this
      cases this
    rw [upd_ne nb]
    exact h.kd
/-- when all have joined, the dict stands -/
theorem JoinG.done {c : Cs} {b kd : Addr} {I : Hp} {co : Addr} {t : List Int} {kk : List (Str × Kd)} {k : Nat} {H : Hp} (h : JoinG c b kd I co t kk k H) : ∃ I', Same I I' ∧ I' kd = some (.dK (kvOf kk)) ∧ LawG c b I' co kk (gh0 t) (fun _ => True) k H := by
  obtain ⟨⟨M, C, r, h1, h2, h3, h4, h5⟩, hb, hk⟩ := h
  have s : Same (Msk H [b, kd]) (Msk H [b]) := msk_less (by simp)
  have nM : kd ∉ M := fun z => h1.liveM kd z (msk_in (by simp))
  have nb : kd ≠ b := fun z => by
    obtain ⟨o, e, _, _, _, rfl, _⟩ := hb
    rw [z, e] at hk
    cases hk
  refine ⟨Msk (Msk H [b]) M, h4.trans (msk_mono s), ?_, ⟨M, C, r, h1.grow s, h2, h3, same_refl, trivial⟩, hb⟩
  rw [msk_at nM, msk_at (by simpa using nb)]
  exact hk
end Tc
/-! # The walks: one whole run of the law -/
namespace Tc
open PySem PySem.Spec PyProof.Rows L2
section
variable {P : Program} {w : World} {K : PySem.W.Frag} {mg : Str → Option Value} {base : Heap} {c : Cs}
/- _law_right: 0 _law_bag_here, 1 _law_chars, 2 _law_company (cell), 3 _law_some, 4 _law_kinds, 5 _law_who, 6 _law_seen (cell), 7 _law_gone, 8 _law_lists, 9 _law_state, 10 _law_turn, 11 _law_dropped, 12 _law_put, 13 _law_now (cell), 14 _law_step, 15 _law_one, 16 _law_char -/
theorem sc_l_right : FnScope ["_law_bag_here", "_law_chars", "_law_company", "_law_some", "_law_kinds", "_law_who", "_law_seen", "_law_gone", "_law_lists", "_law_state", "_law_turn", "_law_dropped", "_law_put", "_law_now", "_law_step", "_law_one", "_law_char"] ["_law_bag_here"] (defScope s_l_right) := ⟨rfl, rfl, rfl, by decide +kernel, rfl, by decide +kernel, by decide +kernel⟩
theorem bi_l_right : BindsB "_law_right" "_law_right" s_l_right ["_law_bag_here"] := fun _ _ _ _ _ _ us hl => match us, hl with | [_], _ => rfl
def spLRight : Sp := fun vs H Q _ => ∃ (b : Addr) (k : Nat), vs = [.ref b] ∧ BagAt H b k ∧ k + 200 ≤ 1000000 ∧ ∀ H', Same (Msk H [b]) (Msk H' [b]) → BagAt H' b (k + 200) → Q (.bl true) H'
theorem ok_l_right (T : Txt K mg c) (G_l_take : GF P w K mg base 1 "_law_take" ["_law_bag_here", "_law_many"] spLTake) (G_l_fresh : GF P w K mg base 1 "_law_fresh" ["_law_number"] spLFresh) (G_l_edited : GF P w K mg base 12 "_law_edited" ["_law_bag_here", "_law_company", "_law_who", "_law_kind", "_law_state"] (spLEdited c))
    (G_l_send_all : GF P w K mg base 11 "_law_send_all" ["_law_bag_here", "_law_company", "_law_some", "_law_most"] (spLSend c)) (G_l_end_right : GF P w K mg base 5 "_law_end_right" ["_law_company", "_law_some", "_law_seen", "_law_gone", "_law_lists"] (spLEnd c))
    (G_Text_init : KF P w K mg base 5 "Text" c.tx ["self", "chars"] (spTextInit c)) (G_Company_init : KF P w K mg base 4 "Company" c.co ["self", "text"] (spCoInit c)) (G_Company_join : MF P w K mg base 5 c.co "join" ["self", "name", "kind"] [] (spCoJoin c))
    (G_Text_chars : MF P w K mg base 1 c.tx "chars" ["self"] [] (spTextChars c)) (G_Company_text : MF P w K mg base 3 c.co "text" ["self", "name"] [] (spCoText c)) (G_Company_settle : MF P w K mg base 11 c.co "settle" ["self"] [] (spCoSettle c)) : GF P w K mg base 13 "_law_right" ["_law_bag_here"] spLRight := by
  refine T.d_l_right.gf sc_l_right bi_l_right (fun vs H Q E h => ?_) (fun f cdv A outer s H vs Q E hr h => ?_)
  · obtain ⟨b, k, rfl, _⟩ := h
    rfl
  · obtain ⟨b, k, rfl, hb, hk, q⟩ := h
    refine ⟨_, (pss_cons (ps_setLc (i := 1) (own := [("_law_step", 14)]) (g := gName 14) rfl sc_l_right.nd rfl rfl (sw_true rfl rfl rfl (by decide +kernel)) (pi_range1 (by rfl) T.z_range (pa_cons (pe_gf G_l_take hr (pa_cons (pv 0) (pa_cons pe_int pa_nil))) pa_nil)) (blkOk_by (own := [("_law_step", 14)]) (N := ["_law_bag_here", "_law_chars", "_law_company", "_law_some", "_law_kinds", "_law_who", "_law_seen", "_law_gone", "_law_lists", "_law_state", "_law_turn", "_law_dropped", "_law_put", "_law_now", "_law_step", "_law_one", "_law_char"]) (sc := defScope s_l_right) (by decide +kernel)) (fun _ _ _ _ _ => pg_name (i := 14) sc_l_right.nd rfl (by first | exact Or.inl rfl | exact Or.inr rfl)) (fun _ _ _ _ _ => pts_nil) (fun _ _ _ _ _ => (pe_gf G_l_fresh hr (pa_cons (pv 14) pa_nil))))
      (pss_cons (ps_asg (pe_tup (pa_cons (pe_frm (pe_kf G_Company_init hr (pa_cons (pe_kf G_Text_init hr (pa_cons (pv 1) pa_nil)) pa_nil))) (pa_cons (pe_slice sl_list (pe_lst (pa_cons pe_str (pa_cons pe_str (pa_cons pe_str (pa_cons pe_str pa_nil))))) po_none (po_some (pe_op op_add pe_int (pe_gf G_l_take hr (pa_cons (pv 0) (pa_cons pe_int pa_nil)))))) (pa_cons pe_dnewK pa_nil)))) (pg_tup rfl (pgs_cons (pg_name (i := 2) sc_l_right.nd rfl (Or.inr rfl)) (pgs_cons (pg_name (i := 3) sc_l_right.nd rfl (Or.inl rfl)) (pgs_cons (pg_name (i := 4) sc_l_right.nd rfl (Or.inl rfl)) pgs_nil)))))
      (pss_cons (ps_for PassesOwn.never rfl (pi_listN K (pv 3)) (pg_name (i := 5) sc_l_right.nd rfl (Or.inl rfl))
      (pss_cons (ps_dput (hu1 hr) (pv 4) (pv 5) (pe_ix ix_list (pe_lst (pa_cons pe_str (pa_cons pe_str (pa_cons pe_str pa_nil)))) (pe_gf G_l_take hr (pa_cons (pv 0) (pa_cons pe_int pa_nil))) (fun _ _ => rfl)) (by rfl))
      (pss_one (ps_expr (pe_mff G_Company_join T.cl_co hr (pv 2) (pa_cons (pv 5) (pa_cons (pe_dget (hu1 hr) (pv 4) (pv 5) (fun _ _ => rfl)) pa_nil)))))))
      (pss_cons (ps_asg (pe_tup (pa_cons (pe_callTy call_list_of (by rfl) T.z_list (by decide +kernel) (pa_cons (pv 1) pa_nil)) (pa_cons (pe_lst pa_nil) (pa_cons (pe_lst (pa_cons (pv 1) pa_nil)) (pa_cons (pe_lst (pa_cons (pe_callB call_len_seq (by rfl) T.z_len (by decide +kernel) (pa_cons (pv 1) pa_nil)) pa_nil)) pa_nil))))) (pg_tup rfl (pgs_cons (pg_name (i := 6) sc_l_right.nd rfl (Or.inr rfl)) (pgs_cons (pg_name (i := 7) sc_l_right.nd rfl (Or.inl rfl)) (pgs_cons (pg_name (i := 8) sc_l_right.nd rfl (Or.inl rfl)) (pgs_cons (pg_name (i := 9) sc_l_right.nd rfl (Or.inl rfl)) pgs_nil))))))
      (pss_cons (ps_for PassesOwn.never rfl (pi_range1 (by rfl) T.z_range (pa_cons pe_int pa_nil)) (pg_name (i := 10) sc_l_right.nd rfl (Or.inl rfl))
      (pss_cons (ps_set (i := 5) sc_l_right.nd rfl (Or.inl rfl) (pe_ix ix_list (pv 3) (pe_gf G_l_take hr (pa_cons (pv 0) (pa_cons (pe_callB call_len_seq (by rfl) T.z_len (by decide +kernel) (pa_cons (pv 3) pa_nil)) pa_nil))) (fun _ _ => rfl)))
      (pss_cons (ps_asg (pe_gf G_l_edited hr (pa_cons (pv 0) (pa_cons (pv 2) (pa_cons (pv 5) (pa_cons (pe_dget (hu1 hr) (pv 4) (pv 5) (fun _ _ => rfl)) (pa_cons (pv 9) pa_nil)))))) (pg_tup rfl (pgs_cons (pg_name (i := 11) sc_l_right.nd rfl (Or.inl rfl)) (pgs_cons (pg_name (i := 12) sc_l_right.nd rfl (Or.inl rfl)) pgs_nil))))
      (pss_cons (ps_asg (pe_tup (pa_cons (pe_op op_cat (pv 6) (pv 12)) (pa_cons (pe_op op_cat (pv 7) (pv 11)) (pa_cons (pe_op op_cat (pv 8) (pe_lst (pa_cons (pv 12) pa_nil))) pa_nil)))) (pg_tup rfl (pgs_cons (pg_name (i := 6) sc_l_right.nd rfl (Or.inr rfl)) (pgs_cons (pg_name (i := 7) sc_l_right.nd rfl (Or.inl rfl)) (pgs_cons (pg_name (i := 8) sc_l_right.nd rfl (Or.inl rfl)) pgs_nil)))))
      (pss_cons (ps_set (i := 9) sc_l_right.nd rfl (Or.inl rfl) (pe_lst (pa_cons (pe_op op_add (pe_ix ix_list (pv 9) pe_int (fun _ _ => rfl)) (pe_callB call_len_seq (by rfl) T.z_len (by decide +kernel) (pa_cons (pv 12) pa_nil))) pa_nil)))
      (pss_cons (ps_set (i := 13) sc_l_right.nd rfl (Or.inr rfl) (pe_mf0 G_Text_chars T.cl_tx hr (pe_mf G_Company_text T.cl_co hr (pv 2) (pa_cons (pv 5) pa_nil))))
      (pss_cons (ps_if (PW.pt (pw_or (pt_cmpR (op_neNil hr.units0) (pe_lc (own := [("_law_char", 16)]) (g := gName 16) rfl sc_l_right.nd (pi_listN K (pv 12)) (blkOk_by (own := [("_law_char", 16)]) (N := ["_law_bag_here", "_law_chars", "_law_company", "_law_some", "_law_kinds", "_law_who", "_law_seen", "_law_gone", "_law_lists", "_law_state", "_law_turn", "_law_dropped", "_law_put", "_law_now", "_law_step", "_law_one", "_law_char"]) (sc := defScope s_l_right) (by decide +kernel)) (fun _ _ _ _ _ => pg_name (i := 16) sc_l_right.nd rfl (by first | exact Or.inl rfl | exact Or.inr rfl)) (fun _ _ _ _ _ => (pts_one (pt_cmpR (op_notIn_seqN K) (pv 16) (pv 13) (by rfl)))) (fun _ _ _ _ _ => (pv 16))) (pe_lst pa_nil) (nomark _)) (pw_or1 (pt_cmpR (op_neNil hr.units0) (pe_lc (own := [("_law_char", 16)]) (g := gName 16) rfl sc_l_right.nd (pi_listN K (pv 11)) (blkOk_by (own := [("_law_char", 16)]) (N := ["_law_bag_here", "_law_chars", "_law_company", "_law_some", "_law_kinds", "_law_who", "_law_seen", "_law_gone", "_law_lists", "_law_state", "_law_turn", "_law_dropped", "_law_put", "_law_now", "_law_step", "_law_one", "_law_char"]) (sc := defScope s_l_right) (by decide +kernel)) (fun _ _ _ _ _ => pg_name (i := 16) sc_l_right.nd rfl (by first | exact Or.inl rfl | exact Or.inr rfl)) (fun _ _ _ _ _ => (pts_one (pt_cmpR (op_in_seqN K) (pv 16) (pv 13) (by rfl)))) (fun _ _ _ _ _ => (pv 16))) (pe_lst pa_nil) (nomark _))))) (pss_one (ps_ret pe_bl)) pss_nil)
      (pss_cons (ps_expr (pe_gf G_l_send_all hr (pa_cons (pv 0) (pa_cons (pv 2) (pa_cons (pv 3) (pa_cons (pe_gf G_l_take hr (pa_cons (pv 0) (pa_cons pe_int pa_nil))) pa_nil))))))
      (pss_one (ps_if (pt_cmpR (op_neNil hr.units0) (pe_lc (own := [("_law_one", 15)]) (g := gName 15) rfl sc_l_right.nd (pi_listN K (pv 3)) (blkOk_by (own := [("_law_one", 15)]) (N := ["_law_bag_here", "_law_chars", "_law_company", "_law_some", "_law_kinds", "_law_who", "_law_seen", "_law_gone", "_law_lists", "_law_state", "_law_turn", "_law_dropped", "_law_put", "_law_now", "_law_step", "_law_one", "_law_char"]) (sc := defScope s_l_right) (by decide +kernel)) (fun _ _ _ _ _ => pg_name (i := 15) sc_l_right.nd rfl (by first | exact Or.inl rfl | exact Or.inr rfl)) (fun _ _ _ _ _ => (pts_one (pt_cmpR (op_neNilN K hr.units0) (pe_lc (own := [("_law_char", 16)]) (g := gName 16) rfl sc_l_right.nd (pi_listN K (pe_mf0 G_Text_chars T.cl_tx hr (pe_mf G_Company_text T.cl_co hr (pv 2) (pa_cons (pv 15) pa_nil)))) (blkOk_by (own := [("_law_char", 16)]) (N := ["_law_bag_here", "_law_chars", "_law_company", "_law_some", "_law_kinds", "_law_who", "_law_seen", "_law_gone", "_law_lists", "_law_state", "_law_turn", "_law_dropped", "_law_put", "_law_now", "_law_step", "_law_one", "_law_char"]) (sc := relS ({ kind := PySem.ScopeKind.function, names := [ (PySem.Str.ofString ".0", PySem.NameKind.local), (PySem.Str.ofString "_law_one", PySem.NameKind.local), (PySem.Str.ofString "_law_company", PySem.NameKind.free), (PySem.Str.ofString "_law_seen", PySem.NameKind.free)], isGenerator := false, isCoroutine := false, more := [] : PySem.Scope }) (defScope s_l_right)) (by decide +kernel)) (fun _ _ _ _ _ => pg_name (i := 16) sc_l_right.nd rfl (by first | exact Or.inl rfl | exact Or.inr rfl)) (fun _ _ _ _ _ => (pts_one (pt_cmpR (op_notIn_seqN K) (pv 16) (pv 6) (by rfl)))) (fun _ _ _ _ _ => (pv 16))) (pe_lst pa_nil) (nomark _)))) (fun _ _ _ _ _ => (pv 15))) (pe_lst pa_nil) (nomark _)) (pss_one (ps_ret pe_bl)) pss_nil))))))))))
      (pss_cons (ps_expr (pe_frm (pe_mf0 G_Company_settle T.cl_co hr (pv 2))))
      (pss_one (ps_ret (pe_gf G_l_end_right hr (pa_cons (pv 2) (pa_cons (pv 3) (pa_cons (pv 6) (pa_cons (pv 7) (pa_cons (pv 8) pa_nil)))))))))))))), ?_⟩
    -- the first text
    refine seq_join (fun σ H1 => ∃ (m : Nat) (ch : Addr), σ = [some (.ref b), some (.ref ch), none, none, none, none, none, none, none, none, none, none, none, none, none, none, none] ∧ m ≤ 8 ∧ BagAt H1 b (k + 1) ∧ LAt (Msk H1 [b]) ch (freshes 0 m) ∧ Same (Msk H [b]) (Msk H1 [b])) (fun N hN => ?_) ?_
    · refine ⟨_, rfl, b, 9, k, rfl, hb, by decide, by decide, by omega, fun d o hd ho => ⟨d, rfl, by omega, by omega, fun D hD => ?_⟩⟩
      rw [show ((d : Int)).toNat = d by omega]
      have hDb : D ≠ b := fun z => by rw [z, upd_same] at hD; cases hD
      refine lc_range (lo := 0) (n := d) (fun i H5 => Same (upd H b o) H5 ∧ H5 D = some (.lst ((freshes 0 i).map V.int))) ⟨same_upd hD, upd_same⟩ ?_ ?_
      · rintro i H5 hi ⟨s5, h5⟩
        refine ⟨rfl, yesT ⟨_, rfl, 0 + i, ?_, fun H6 s6 => ⟨_, s6 _ _ h5, szlt _ (by rw [List.length_map, freshes_len]; omega), same_mut (s5.trans s6) hD, ?_⟩⟩⟩
        · show [V.int (0 + (i : Int))] = [V.int ((0 + i : Nat) : Int)]
          rw [Int.zero_add, Nat.zero_add]
        · rw [upd_same, freshes_succ, List.map_append]
          rfl
      · rintro H5 ⟨s5, h5⟩
        refine hN _ _ ⟨d, D, rfl, by omega, ⟨o, s5 _ _ upd_same, ho⟩, ?_, ?_⟩
        · show Msk H5 [b] D = _
          rw [msk_at (by simpa using hDb)]
          exact h5
        · have := msk_mono (M := [b]) s5
          rw [msk_mut (by simp)] at this
          exact this
    rintro σ H1 ⟨m, ch, rfl, hm, hb1, hch, s01⟩
    have htn : (freshes 0 m).Nodup := freshes_nodup (by omega)
    have htok : ∀ z ∈ freshes 0 m, ChOk z := fun z hz => by
      obtain ⟨i, hi, e1⟩ := freshes_mem hz
      rw [e1]
      exact fresh_ok (by omega)
    have htl := freshes_len 0 m
    have hsee0 : Seen (gh0 (freshes 0 m)) m := fun z hz => by
      have hz : z ∈ freshes 0 m ++ [] := hz
      rw [List.append_nil] at hz
      obtain ⟨i, hi, e1⟩ := freshes_mem hz
      exact ⟨i, hi, by rw [e1, Nat.zero_add]⟩
    generalize freshes 0 m = t at *
    -- the company, the names, the dict of kinds
    refine seq_join (fun σ H2 => ∃ (co sl kd : Addr) (I : Hp) (n : Nat), σ = [some (.ref b), some (.ref ch), some (.ref co), some (.ref sl), some (.ref kd), none, none, none, none, none, none, none, none, none, none, none, none] ∧ Same (Msk H1 [b]) I ∧ (2 ≤ n ∧ n ≤ 4) ∧ I sl = some (.lst ((nms.take n).map V.str)) ∧ JoinG c b kd I co t [] (k + 2) H2) (fun N hN => ?_) ?_
    · obtain ⟨o1, hbo1, hB1⟩ := hb1
      have hfb : ∀ y ∈ [b], Fbl H1 y := fun y hy => by
        obtain ⟨z, y2, j, rfl, _⟩ := hB1
        rw [List.mem_singleton.mp hy]
        exact .inl ⟨_, hbo1⟩
      refine ⟨[b], hfb, _, rfl, fun x dx nx nd ne => mk_text' hch htok (by omega) nx nd ne fun H2 s2 hx => ⟨rfl, fun co cdx ny ndy ney => mk_co' hx ny ndy ney fun H3 M3 r3 s3 hc3 => ⟨rfl, fun hf3 => ⟨lk 4 (by decide), fun p hp => ?_⟩⟩⟩⟩
      have hL3 : LawG c b (Msk H1 [b]) co [] (gh0 t) (fun C => C = coS0 t []) (k + 1) (glue H1 [b] H3) := by
        refine ⟨?_, o1, by rw [glue_in (by simp)]; exact hbo1, hB1⟩
        rw [glue_msk hf3]
        exact ⟨M3, _, r3, hc3, inv0 (ks := []) List.nodup_nil htn htok (by omega), rfl, s2.trans s3, rfl⟩
      generalize glue H1 [b] H3 = H4 at *
      have hL4 := hL3.grow (same_upd (o := .lst [.str "a", .str "bb", .str "ccc", .str "dddd"]) hp)
      refine ⟨_, rfl, b, 3, k + 1, rfl, hL4.2, by decide, by decide, by omega, fun d o hd ho => ⟨_, _, rfl, rfl, _, rfl, p, nms.map V.str, rfl, SqL.of ?_, fun sl hsl kd hkd => ⟨lk 3 (by decide), fun tp htp => ⟨tp, _, rfl, SqT.of upd_same, rfl, _, _, rfl, _, _, rfl, _, _, rfl, rfl, ?_⟩⟩⟩⟩
      · have : p ≠ b := fun z => by
          obtain ⟨o, e, _⟩ := hL3.2
          rw [z, e] at hp
          cases hp
        rw [upd_ne this]
        exact upd_same
      have hL5 := hL4.bag ho
      have hcut : cutV (nms.map V.str) none (some ((2 : Int) + (d : Int))) = (nms.take (2 + d)).map V.str := by
        have := cut_to V.str nms (2 + d) (by show 2 + d ≤ 4; omega)
        rw [← this]
        rfl
      have hcut2 : ∀ {X : List V → Prop}, X ((nms.take (2 + d)).map V.str) → X (cutV (nms.map V.str) none (some ((2 : Int) + (d : Int)))) := fun hX => by rw [hcut]; exact hX
      obtain ⟨I, sI, new, hL6⟩ := hL5.news (same_upd (o := .lst (cutV (nms.map V.str) none (some ((2 : Int) + (d : Int))))) hsl)
      have hsl6 := new sl _ hsl upd_same
      rw [hcut] at hsl6
      exact hN _ _ ⟨co, sl, kd, I, 2 + d, rfl, sI, by omega, hsl6, (JoinG.start hL6 hkd).grow (same_upd htp)⟩
    rintro σ H2 ⟨co, sl, kd, I, n, rfl, sI, hn, hsl, hJ⟩
    have hchI : LAt I ch t := hch.mono sI
    -- all join
    refine seq_join (fun σ H3 => ∃ (v5 : Option V) (kk : List (Str × Kd)), σ = [some (.ref b), some (.ref ch), some (.ref co), some (.ref sl), some (.ref kd), v5, none, none, none, none, none, none, none, none, none, none, none] ∧ kk.map (·.1) = nms.take n ∧ JoinG c b kd I co t kk (k + 6) H3) (fun N hN => ?_) ?_
    · have hlen : ((nms.take n).map V.str).length = n := by
        rw [List.length_map, List.length_take]
        show min n 4 = n
        omega
      refine ⟨_, rfl, sl, rfl, ⟨_, SqL.of (hJ.at_ hsl)⟩, for_list (K := K) (a := sl) (xs := (nms.take n).map V.str) (fun i σ H3 => ∃ (v5 : Option V) (kk : List (Str × Kd)), σ = [some (.ref b), some (.ref ch), some (.ref co), some (.ref sl), some (.ref kd), v5, none, none, none, none, none, none, none, none, none, none, none] ∧ kk.map (·.1) = (nms.take n).take i ∧ JoinG c b kd I co t kk (k + 2 + i) H3) ⟨none, [], rfl, rfl, hJ⟩ ?_ ?_ ?_⟩
      · rintro i σ H3 _ ⟨v5, kk, rfl, _, hJ3⟩
        exact SqL.of (hJ3.at_ hsl)
      · rintro i x σ H3 hx ⟨v5, kk, rfl, hkk, hJ3⟩
        obtain ⟨nm, hnm, rfl⟩ := lmap_at hx
        have hil := (List.getElem?_eq_some_iff.mp hnm).1
        have hil4 : i < 4 := by
          rw [List.length_take] at hil
          have : nms.length = 4 := rfl
          omega
        have hnm2 : nms[i]? = some nm := by
          rw [List.length_take] at hil
          rw [List.getElem?_take_of_lt (by omega)] at hnm
          exact hnm
        have hnew : nm ∉ kk.map (·.1) := by
          rw [hkk]
          exact nodup_pre (nms_nd.sublist (List.take_sublist _ _)) hnm
        have hkl : kk.length ≤ 4 := by
          have := congrArg List.length hkk
          rw [List.length_map, List.length_take] at this
          omega
        refine seq_join (fun σ H4 => ∃ kd1 : Kd, σ = [some (.ref b), some (.ref ch), some (.ref co), some (.ref sl), some (.ref kd), some (.str nm), none, none, none, none, none, none, none, none, none, none, none] ∧ CoG c I co kk (gh0 t) (fun C => C = coS0 t kk) (Msk H4 [b, kd]) ∧ BagAt H4 b (k + 2 + (i + 1)) ∧ H4 kd = some (.dK (kvOf (kk ++ [(nm, kd1)])))) (fun N2 hN2 => ?_) ?_
        · refine ⟨lk 3 (by decide), fun p hp => ?_⟩
          have hJ4 := hJ3.grow (same_upd (o := .lst [.str "bytes", .str "units", .str "chars"]) hp)
          have npb : p ≠ b := fun z => by
            obtain ⟨o, e, _⟩ := hJ3.bag
            rw [z, e] at hp
            cases hp
          refine ⟨_, rfl, b, 3, k + 2 + i, rfl, hJ4.bag, by decide, by decide, by omega, fun d o hd ho => ?_⟩
          have hJ5 := hJ4.bagO ho
          have hput := DPut.k (H := upd (upd H3 p (.lst [.str "bytes", .str "units", .str "chars"])) b o) (a := kd) (k := .inr nm) (v := .str (kdOf d).s) hJ5.kd (szlt _ (by unfold kvOf; rw [List.length_map]; omega))
          rw [kvOf_put hnew] at hput
          have hpl : upd (upd H3 p (.lst [.str "bytes", .str "units", .str "chars"])) b o p = some (.lst [.str "bytes", .str "units", .str "chars"]) := by
            rw [upd_ne npb]
            exact upd_same
          refine ⟨p, _, (d : Int), .str (kdOf d).s, rfl, rfl, SqL.of hpl, atI_of (kds_at hd), _, rfl, _, rfl, kd, _, rfl, hput, hN2 _ _ ⟨kdOf d, rfl, ?_, ?_, upd_same⟩⟩
          · rw [msk_mut (by simp)]
            exact hJ5.co
          · obtain ⟨o2, e2, ho2⟩ := hJ5.bag
            have nbk : b ≠ kd := fun z => by
              obtain ⟨_, _, _, rfl, _⟩ := ho2
              have := hJ5.kd
              rw [← z, e2] at this
              cases this
            exact ⟨o2, by rw [upd_ne nbk]; exact e2, ho2.mono (by omega)⟩
        rintro σ H4 ⟨kd1, rfl, hco4, hbag4, hkd4⟩
        obtain ⟨M, C, r, hc, hI, hnk, hs4, rfl⟩ := hco4
        have hcin : H4 co = some (.ins c.co r.dx (coF r)) := msk_same _ _ hc.ins
        have hfb : ∀ y ∈ [b, kd], Fbl H4 y := fun y hy => by
          simp only [List.mem_cons, List.not_mem_nil, or_false] at hy
          rcases hy with z | z
          · subst z
            obtain ⟨o, e, _, _, _, rfl, _⟩ := hbag4
            exact .inl ⟨_, e⟩
          · subst z
            exact .inr ⟨_, hkd4⟩
        have hnd : ((kk ++ [(nm, kd1)]).map (·.1)).Nodup := by
          rw [List.map_append, hkk]
          have e : (nms.take n).take i ++ [(nm, kd1)].map (·.1) = (nms.take n).take (i + 1) := (take_snoc hnm).symm
          rw [e]
          exact (nms_nd.sublist (List.take_sublist _ _)).sublist (List.take_sublist _ _)
        have hget : DGet H4 kd (.str nm) (some (.str kd1.s)) := by
          have := kOf_at (ks := kk ++ [(nm, kd1)]) hnd (j := kk.length) (q := (nm, kd1)) (by simp)
          exact .inl ⟨_, .inr nm, .inl hkd4, rfl, this.symm⟩
        refine ⟨_, rfl, co, r.dx, _, rfl, hcin, rfl, _, rfl, _, rfl, _, rfl, kd, _, rfl, hget, [b, kd], hfb, co, M, coS0 t kk, r, nm, kd1, t, rfl, hc, nms_ok hnm2, ?_, ?_, Nat.zero_le _, rfl, fun H' M' r' s' h' hf => ?_⟩
        · unfold coS0
          rw [List.map_map]
          exact hnew
        · unfold coS0
          rw [List.length_map]
          omega
        · refine ⟨_, kk ++ [(nm, kd1)], rfl, ?_, ?_, ?_, ?_⟩
          · rw [List.map_append, hkk]
            exact (take_snoc hnm).symm
          · rw [glue_msk hf]
            rw [co_joined] at h'
            exact ⟨M', _, r', h', inv0 hnd htn htok (by omega), nmk0 _ _, hs4.trans s', rfl⟩
          · obtain ⟨o, e, ho⟩ := hbag4
            exact ⟨o, by rw [glue_in (by simp)]; exact e, ho⟩
          · rw [glue_in (by simp)]
            exact hkd4
      · rintro σ H3 ⟨v5, kk, rfl, hkk, hJ3⟩
        rw [hlen] at hkk hJ3
        rw [List.take_take, Nat.min_self] at hkk
        obtain ⟨o, e, ho⟩ := hJ3.bag
        exact hN _ _ ⟨v5, kk, rfl, hkk, hJ3.co, ⟨o, e, ho.mono (by omega)⟩, hJ3.kd⟩
    rintro σ H3 ⟨v5, kk, rfl, hkk, hJ3⟩
    obtain ⟨I1, sI1, hkd1, hL3⟩ := hJ3.done
    have hkl : kk.length = n := by
      have := congrArg List.length hkk
      rw [List.length_map, List.length_take] at this
      have : nms.length = 4 := rfl
      omega
    have hnd : (kk.map (·.1)).Nodup := by
      rw [hkk]
      exact nms_nd.sublist (List.take_sublist _ _)
    have hslI : I1 sl = some (.lst (nmsV kk)) := by
      have e := sI1 _ _ hsl
      rw [← hkk, List.map_map] at e
      exact e
    have hchI1 := hchI.mono sI1
    have sI01 := sI.trans sI1
    clear hJ3 hJ hsl hchI sI1 hkk
    -- the law's lists
    refine seq_join (fun σ H4 => ∃ (se go li st : Addr) (I2 : Hp), σ = [some (.ref b), some (.ref ch), some (.ref co), some (.ref sl), some (.ref kd), v5, some (.ref se), some (.ref go), some (.ref li), some (.ref st), none, none, none, none, none, none, none] ∧ Same I1 I2 ∧ Rec I2 (gh0 t) se go li st 0 ∧ LawG c b I2 co kk (gh0 t) (fun _ => True) (k + 6) H4) (fun N hN => ?_) ?_
    · have hch3 := hL3.at_ hchI1
      refine ⟨_, rfl, ch, _, rfl, .inl (SqL.of hch3), fun se hse => ⟨lk 0 (by decide), fun go hgo => ⟨_, rfl, lk 1 (by decide), fun li hli => ⟨_, rfl, ch, _, rfl, .inl (SqL.of (((same_upd hse).trans ((same_upd hgo).trans (same_upd hli))) _ _ hch3)), lk 1 (by decide), fun st hst => ⟨lk 4 (by decide), fun tp htp => ⟨tp, _, rfl, SqT.of upd_same, rfl, _, _, rfl, _, _, rfl, _, _, rfl, _, _, rfl, rfl, ?_⟩⟩⟩⟩⟩⟩
      have a1 := same_upd (o := .lst (t.map V.int)) hse
      have a2 := same_upd (o := .lst []) hgo
      have a3 := same_upd (o := .lst [.ref ch]) hli
      have a4 := same_upd (o := .lst [.int (t.map V.int).length]) hst
      have a5 := same_upd (o := .tup [.ref se, .ref go, .ref li, .ref st]) htp
      have a45 := a4.trans a5
      have a35 := a3.trans a45
      have a25 := a2.trans a35
      obtain ⟨I2, sI2, new, hL4⟩ := hL3.news (a1.trans a25)
      refine hN _ _ ⟨se, go, li, st, I2, rfl, sI2, ?_, hL4⟩
      refine ⟨?_, ⟨[], new go _ (a1.free hgo) (a35 _ _ upd_same), fun z hz => (by cases hz), fun z hz => ?_, Nat.zero_le _⟩, ⟨[ch], new li _ (a1.free (a2.free hli)) (a45 _ _ upd_same), .cons (hchI1.mono sI2) .nil, Nat.le_refl _⟩, ⟨m, ?_, hsee0, by omega⟩, rfl⟩
      · show LAt I2 se (t ++ [])
        rw [List.append_nil]
        exact new se _ hse (a25 _ _ upd_same)
      · obtain ⟨i, row, h1, _⟩ := hz
        cases h1
      · have := new st _ (a1.free (a2.free (a3.free hst))) (a5 _ _ upd_same)
        rw [List.length_map, htl] at this
        exact this
    rintro σ H4 ⟨se, go, li, st, I2, rfl, sI2, hR, hL4⟩
    have hslI2 := sI2 _ _ hslI
    have hkdI2 := sI2 _ _ hkd1
    have sI02 := sI01.trans sI2
    clear hslI hkd1 hchI1 sI2 hL3 hsee0 sI01
    -- the turns
    refine seq_join (fun σ H5 => ∃ (v5 v10 v11 v12 v13 : Option V) (se go li st : Addr) (I3 : Hp) (G : Gh), σ = [some (.ref b), some (.ref ch), some (.ref co), some (.ref sl), some (.ref kd), v5, some (.ref se), some (.ref go), some (.ref li), some (.ref st), v10, v11, v12, v13, none, none, none] ∧ Same I2 I3 ∧ Rec I3 G se go li st 10 ∧ GIx kk.length G ∧ LawG c b I3 co kk G (fun _ => True) (k + 176) H5) (fun N hN => ?_) ?_
    · refine ⟨10, rfl, by decide, by decide, for_range (fun i σ H5 => ∃ (v5 v10 v11 v12 v13 : Option V) (se go li st : Addr) (I3 : Hp) (G : Gh), σ = [some (.ref b), some (.ref ch), some (.ref co), some (.ref sl), some (.ref kd), v5, some (.ref se), some (.ref go), some (.ref li), some (.ref st), v10, v11, v12, v13, none, none, none] ∧ Same I2 I3 ∧ Rec I3 G se go li st i ∧ GIx kk.length G ∧ LawG c b I3 co kk G (fun _ => True) (k + 6 + 17 * i) H5) ⟨v5, none, none, none, none, se, go, li, st, I2, gh0 t, rfl, same_refl, hR, gix0 _ _, hL4⟩ ?_ ?_⟩
      · clear hR hL4
        rintro i σ H5 hi ⟨v5, v10, v11, v12, v13, se, go, li, st, I3, G, rfl, sI3, hR, hgx, hL5⟩
        have hi : i < 10 := by simpa using hi
        have hsl3 := sI3 _ _ hslI2
        have hkd3 := sI3 _ _ hkdI2
        have hnl : (nmsV kk).length = n := by unfold nmsV; rw [List.length_map, hkl]
        -- who
        refine seq_join (fun σ H6 => ∃ (v10 : Option V) (j : Nat) (qk : Str × Kd), σ = [some (.ref b), some (.ref ch), some (.ref co), some (.ref sl), some (.ref kd), some (.str qk.1), some (.ref se), some (.ref go), some (.ref li), some (.ref st), v10, v11, v12, v13, none, none, none] ∧ kk[j]? = some qk ∧ LawG c b I3 co kk G (fun _ => True) (k + 6 + 17 * i + 1) H6) (fun N hN => ?_) ?_
        · refine ⟨_, rfl, _, rfl, _, rfl, sl, _, rfl, .inl (SqL.of (hL5.at_ hsl3)), b, (nmsV kk).length, k + 6 + 17 * i, rfl, hL5.2, by omega, by omega, by omega, fun d o hd ho => ?_⟩
          have hL6 := hL5.bag ho
          have hd2 : d < kk.length := by omega
          refine ⟨sl, nmsV kk, (d : Int), .str (kk[d]'hd2).1, rfl, rfl, SqL.of (hL6.at_ hsl3), atI_of ?_, hN _ _ ⟨_, d, kk[d]'hd2, rfl, List.getElem?_eq_getElem hd2, hL6⟩⟩
          unfold nmsV
          rw [List.getElem?_map, List.getElem?_eq_getElem hd2]
          rfl
        rintro σ H6 ⟨v10, j, qk, rfl, hqk, hL6⟩
        clear hL5 v5
        -- the edit
        obtain ⟨hse, ⟨gone, hgo, hg1, hg2, hgl⟩, ⟨as, hli, hrows, hasl⟩, ⟨nu, hst, hsee, hnu⟩, hne⟩ := hR
        refine seq_join (fun σ H7 => ∃ (dl cl : Addr) (mm : Nat) (dd : List Int) (I4 : Hp), σ = [some (.ref b), some (.ref ch), some (.ref co), some (.ref sl), some (.ref kd), some (.str qk.1), some (.ref se), some (.ref go), some (.ref li), some (.ref st), v10, some (.ref dl), some (.ref cl), v13, none, none, none] ∧ Same I3 I4 ∧ LawG c b I4 co kk (G.edit j (freshes nu mm) dd) (fun C => ∀ y, C.ps[j]? = some y → (∀ z ∈ freshes nu mm, z ∈ y.P.own) ∧ ∀ z ∈ dd, z ∉ y.P.own) (k + 6 + 17 * i + 4) H7 ∧ LAt I4 dl dd ∧ LAt I4 cl (freshes nu mm) ∧ mm ≤ 3 ∧ dd.length ≤ 100) (fun N hN => ?_) ?_
        · have hget : DGet H6 kd (.str qk.1) (some (.str qk.2.s)) := .inl ⟨_, .inr qk.1, .inl (hL6.at_ hkd3), rfl, (kOf_at hnd hqk).symm⟩
          refine ⟨_, rfl, _, rfl, _, rfl, _, rfl, _, rfl, kd, _, rfl, hget, _, rfl, b, co, st, k + 6 + 17 * i + 1, j, nu, I3, kk, G, qk, rfl, hL6, hqk, hst, by omega, by omega, hsee, by omega, fun H7 I4 tp dl cl mm dd sI4 hL7 htp hdl hcl hmm hddl => ?_⟩
          exact ⟨tp, _, rfl, SqT.of (hL7.at_ htp), rfl, _, _, rfl, _, _, rfl, rfl, hN _ _ ⟨dl, cl, mm, dd, I4, rfl, sI4, hL7, hdl, hcl, hmm, hddl⟩⟩
        rintro σ H7 ⟨dl, cl, mm, dd, I4, rfl, sI4, hL7, hdl, hcl, hmm, hddl⟩
        clear hL6
        have hse4 := hse.mono sI4
        have hgo4 := hgo.mono sI4
        have hli4 := sI4 _ _ hli
        have hst4 := sI4 _ _ hst
        have hsl4 := sI4 _ _ hsl3
        have hrows4 := pr_imp (fun _ _ z => LAt.mono sI4 z) hrows
        have hfl := freshes_len nu mm
        -- seen, gone, lists
        refine seq_join (fun σ H8 => ∃ (se' go' li' : Addr) (I5 : Hp), σ = [some (.ref b), some (.ref ch), some (.ref co), some (.ref sl), some (.ref kd), some (.str qk.1), some (.ref se'), some (.ref go'), some (.ref li'), some (.ref st), v10, some (.ref dl), some (.ref cl), v13, none, none, none] ∧ Same I4 I5 ∧ LawG c b I5 co kk (G.edit j (freshes nu mm) dd) (fun C => ∀ y, C.ps[j]? = some y → (∀ z ∈ freshes nu mm, z ∈ y.P.own) ∧ ∀ z ∈ dd, z ∉ y.P.own) (k + 6 + 17 * i + 4) H8 ∧ LAt I5 se' (G.seen ++ freshes nu mm) ∧ LAt I5 go' (gone ++ dd) ∧ I5 li' = some (.lst ((as ++ [cl]).map V.ref))) (fun N hN => ?_) ?_
        · have hseen38 : G.seen.length ≤ 100 := by
            obtain ⟨⟨M, C, r, hc, hI, _⟩, _⟩ := hL7
            have h1 := hI.g.sl
            have h2 := hI.g.n10
            rw [edit_seen, List.length_append] at h1
            omega
          refine ⟨_, rfl, _, rfl, se, cl, _, _, rfl, rfl, hL7.at_ hse4, hL7.at_ hcl, sz _ (by rw [List.length_map, List.length_map, hfl]; omega), fun se' hse' => ?_⟩
          have a1 := same_upd (o := .lst (G.seen.map V.int ++ (freshes nu mm).map V.int)) hse'
          refine ⟨_, rfl, _, rfl, go, dl, _, _, rfl, rfl, a1 _ _ (hL7.at_ hgo4), a1 _ _ (hL7.at_ hdl), sz _ (by rw [List.length_map, List.length_map]; omega), fun go' hgo' => ?_⟩
          have a2 := same_upd (o := .lst (gone.map V.int ++ dd.map V.int)) hgo'
          refine ⟨_, rfl, _, rfl, lk 1 (by decide), fun e he => ?_⟩
          have a3 := same_upd (o := .lst [.ref cl]) he
          refine ⟨li, e, _, [.ref cl], rfl, rfl, (a1.trans (a2.trans a3)) _ _ (hL7.at_ hli4), upd_same, sz _ (by rw [List.length_map]; show _ + 1 ≤ _; omega), fun li' hli' => ⟨lk 3 (by decide), fun tp htp => ⟨tp, _, rfl, SqT.of upd_same, rfl, _, _, rfl, _, _, rfl, _, _, rfl, rfl, ?_⟩⟩⟩
          have a4 := same_upd (o := .lst (as.map V.ref ++ [.ref cl])) hli'
          have a5 := same_upd (o := .tup [.ref se', .ref go', .ref li']) htp
          have a45 := a4.trans a5
          have a35 := a3.trans a45
          have a25 := a2.trans a35
          obtain ⟨I5, sI5, new, hL8⟩ := hL7.news (a1.trans a25)
          refine hN _ _ ⟨se', go', li', I5, rfl, sI5, hL8, ?_, ?_, ?_⟩
          · have := new se' _ hse' (a25 _ _ upd_same)
            rw [← List.map_append] at this
            exact this
          · have := new go' _ (a1.free hgo') (a35 _ _ upd_same)
            rw [← List.map_append] at this
            exact this
          · have := new li' _ (a1.free (a2.free (a3.free hli'))) (a5 _ _ upd_same)
            rw [List.map_append]
            exact this
        rintro σ H8 ⟨se', go', li', I5, rfl, sI5, hL8, hse5, hgo5, hli5⟩
        clear hL7 hse4 hgo4 hli4
        -- state
        refine seq_join (fun σ H9 => ∃ (st' : Addr) (I6 : Hp), σ = [some (.ref b), some (.ref ch), some (.ref co), some (.ref sl), some (.ref kd), some (.str qk.1), some (.ref se'), some (.ref go'), some (.ref li'), some (.ref st'), v10, some (.ref dl), some (.ref cl), v13, none, none, none] ∧ Same I5 I6 ∧ LawG c b I6 co kk (G.edit j (freshes nu mm) dd) (fun C => ∀ y, C.ps[j]? = some y → (∀ z ∈ freshes nu mm, z ∈ y.P.own) ∧ ∀ z ∈ dd, z ∉ y.P.own) (k + 6 + 17 * i + 4) H9 ∧ I6 st' = some (.lst [.int ((nu + mm : Nat) : Int)])) (fun N hN => ?_) ?_
        · refine ⟨_, rfl, st, _, 0, .int nu, rfl, rfl, SqL.of (hL8.at_ (sI5 _ _ hst4)), rfl, _, rfl, cl, _, rfl, .inl (SqL.of (hL8.at_ (sI5 _ _ hcl))), _, _, rfl, rfl, lk 1 (by decide), fun st' hst' => ?_⟩
          obtain ⟨I6, sI6, new, hL9⟩ := hL8.news (same_upd (o := .lst [.int ((nu : Int) + (((freshes nu mm).map V.int).length : Nat))]) hst')
          refine hN _ _ ⟨st', I6, rfl, sI6, hL9, ?_⟩
          have := new st' _ hst' upd_same
          rw [List.length_map, hfl, ← Int.natCast_add] at this
          exact this
        rintro σ H9 ⟨st', I6, rfl, sI6, hL9, hst6⟩
        clear hL8
        have hR6 : Rec I6 (G.edit j (freshes nu mm) dd) se' go' li' st' (i + 1) := by
          refine ⟨?_, ⟨gone ++ dd, hgo5.mono sI6, fun z hz => ?_, fun z hz => ?_, ?_⟩, ⟨as ++ [cl], sI6 _ _ hli5, ?_, ?_⟩, ⟨nu + mm, hst6, hsee.edit, by omega⟩, ?_⟩
          · rw [edit_seen]
            exact hse5.mono sI6
          · exact (gone_edit z).mpr ((List.mem_append.mp hz).imp (hg1 z) fun q => q)
          · exact List.mem_append.mpr (((gone_edit z).mp hz).imp (hg2 z) fun q => q)
          · rw [List.length_append]
            omega
          · show Paired (LAt I6) (as ++ [cl]) ((G.rows ++ [(some j, freshes nu mm)]).map (·.2))
            rw [List.map_append]
            exact pr_app (pr_imp (fun _ _ z => LAt.mono (sI5.trans sI6) z) hrows4) (.cons (LAt.mono (sI5.trans sI6) hcl) .nil)
          · rw [List.length_append]
            show _ + 1 ≤ _
            omega
          · show G.ne + 1 = i + 1
            rw [hne]
        have hgx6 : GIx kk.length (G.edit j (freshes nu mm) dd) := hgx.edit (List.getElem?_eq_some_iff.mp hqk).1
        have hcl6 := (hcl.mono sI5).mono sI6
        have hdl6 := (hdl.mono sI5).mono sI6
        have hsl6 := sI6 _ _ (sI5 _ _ hsl4)
        have sI36 := sI4.trans (sI5.trans sI6)
        clear hse hgo hli hrows hst hse5 hgo5 hli5 hst6 hst4 hsl4 hrows4 hg1 hg2 hgl hasl hsee hnu hgx hne hcl hdl sI4 sI5 sI6
        -- the text now
        refine seq_join (fun σ H10 => ∃ (nw : Addr) (y : PgS) (I7 : Hp), σ = [some (.ref b), some (.ref ch), some (.ref co), some (.ref sl), some (.ref kd), some (.str qk.1), some (.ref se'), some (.ref go'), some (.ref li'), some (.ref st'), v10, some (.ref dl), some (.ref cl), some (.ref nw), none, none, none] ∧ Same I6 I7 ∧ LawG c b I7 co kk (G.edit j (freshes nu mm) dd) (fun _ => True) (k + 6 + 17 * i + 4) H10 ∧ LAt I7 nw y.P.own ∧ (∀ z ∈ freshes nu mm, z ∈ y.P.own) ∧ ∀ z ∈ dd, z ∉ y.P.own) (fun N hN => ?_) ?_
        · obtain ⟨⟨M, C, r, hc, hI, hkk, hs3, hp9⟩, hb9⟩ := id hL9
          obtain ⟨y, hy, hnm, hkd⟩ := nmk_at hkk hqk
          have hc' := hc.grow (msk_same (M := [b]))
          obtain ⟨p, hp, hpg⟩ := hc'.at_ hy
          have hT := hpg.pr.own.mono msk_same
          obtain ⟨tdx, tl, tv, ht1, ht2⟩ := id hT
          refine ⟨_, rfl, co, r.dx, _, rfl, hc'.ins, rfl, _, rfl, co, M, C, r, y, p, j, by rw [hnm]; rfl, hc', hy, hp, p.r.o, tdx, _, rfl, ht1, rfl, p.r.o, y.P.own, rfl, hT, fun l hl => ?_⟩
          obtain ⟨I7, sI7, new, hL10⟩ := (hL9.imp fun _ _ _ _ => trivial).news (same_upd (o := .lst (y.P.own.map V.int)) hl)
          obtain ⟨p1, p2⟩ := hp9 y hy
          exact hN _ _ ⟨l, y, I7, rfl, sI7, hL10, new l _ hl upd_same, p1, p2⟩
        rintro σ H10 ⟨nw, y, I7, rfl, sI7, hL10, hnw, hp1, hp2⟩
        clear hL9
        have hcl7 := hcl6.mono sI7
        have hdl7 := hdl6.mono sI7
        -- what was put stands, what was dropped does not
        refine seq_join (fun σ H11 => σ = [some (.ref b), some (.ref ch), some (.ref co), some (.ref sl), some (.ref kd), some (.str qk.1), some (.ref se'), some (.ref go'), some (.ref li'), some (.ref st'), v10, some (.ref dl), some (.ref cl), some (.ref nw), none, none, none] ∧ LawG c b I7 co kk (G.edit j (freshes nu mm) dd) (fun _ => True) (k + 6 + 17 * i + 4) H11) (fun N hN => ?_) ?_
        · refine ⟨_, rfl, cl, rfl, ⟨_, SqL.of (hL10.at_ hcl7)⟩, fun D hD => ?_⟩
          refine flt_it (K := K) (fun _ => false) (hcl7.mono hL10.same) hD (by show 16 < 17; decide) (by rw [hfl]; omega) (fun x H11 R hx s11 hR => ?_) (fun H11 s11 h11 => ?_)
          · refine ⟨_, rfl, _, rfl, nw, _, rfl, .inl (SqL.of (s11 _ _ (hL10.at_ hnw))), rfl, flat_ints _, _, rfl, ?_⟩
            show R (!inV (.int x) (y.P.own.map V.int)) H11
            rw [inV_ints, decide_eq_true (hp1 x hx)]
            exact hR H11 same_refl
          rw [List.filter_eq_nil_iff.mpr (fun _ _ => Bool.false_ne_true)] at h11
          refine ⟨lk 0 (by decide), fun e he => ⟨D, e, [], rfl, rfl, SqL.of ((same_upd he) _ _ h11), SqL.of upd_same, _, rfl, iteF ?_⟩⟩
          have s12 := s11.trans (same_upd (o := .lst []) he)
          have hL12 := hL10.grow s12
          refine ⟨_, rfl, dl, rfl, ⟨_, SqL.of (hL12.at_ hdl7)⟩, fun D2 hD2 => ?_⟩
          refine flt_it (K := K) (fun _ => false) (hdl7.mono hL12.same) hD2 (by show 16 < 17; decide) (by omega) (fun x H13 R hx s13 hR => ?_) (fun H13 s13 h13 => ?_)
          · refine ⟨_, rfl, _, rfl, nw, _, rfl, .inl (SqL.of (s13 _ _ (hL12.at_ hnw))), rfl, flat_ints _, _, rfl, ?_⟩
            show R (inV (.int x) (y.P.own.map V.int)) H13
            rw [inV_ints, decide_eq_false (hp2 x hx)]
            exact hR H13 same_refl
          rw [List.filter_eq_nil_iff.mpr (fun _ _ => Bool.false_ne_true)] at h13
          exact ⟨lk 0 (by decide), fun e2 he2 => ⟨D2, e2, [], rfl, rfl, SqL.of ((same_upd he2) _ _ h13), SqL.of upd_same, _, rfl, iteF (hN _ _ ⟨rfl, hL12.grow (s13.trans (same_upd he2))⟩)⟩⟩
        rintro σ H11 ⟨rfl, hL11⟩
        clear hL10
        -- the net
        refine seq_join (fun σ H12 => σ = [some (.ref b), some (.ref ch), some (.ref co), some (.ref sl), some (.ref kd), some (.str qk.1), some (.ref se'), some (.ref go'), some (.ref li'), some (.ref st'), v10, some (.ref dl), some (.ref cl), some (.ref nw), none, none, none] ∧ LawG c b I7 co kk (G.edit j (freshes nu mm) dd) (fun _ => True) (k + 6 + 17 * (i + 1)) H12) (fun N hN => ?_) ?_
        · refine ⟨_, rfl, _, rfl, _, rfl, _, rfl, b, 7, k + 6 + 17 * i + 4, rfl, hL11.2, by decide, by decide, by omega, fun d o hd ho => ?_⟩
          refine ⟨b, co, sl, d, k + 6 + 17 * i + 4 + 1, I7, kk, _, rfl, hL11.bag ho, sI7 _ _ hsl6, by omega, by omega, by omega, by omega, fun H12 hL12 => hN _ _ ⟨rfl, hL12.more (by omega)⟩⟩
        rintro σ H12 ⟨rfl, hL12⟩
        clear hL11
        -- no text has what was not seen
        have hse7 : LAt I7 se' (G.edit j (freshes nu mm) dd).seen := hR6.se.mono sI7
        have hsl7 := sI7 _ _ hsl6
        refine ⟨_, rfl, sl, rfl, ⟨_, SqL.of (hL12.at_ hsl7)⟩, fun D hD => ?_⟩
        refine lc_list (K := K) (a := sl) (xs := nmsV kk) (fun i H13 => Same H12 H13 ∧ H13 D = some (.lst [])) ⟨same_upd hD, upd_same⟩ (fun i H13 _ z => SqL.of (z.1 _ _ (hL12.at_ hsl7))) ?_ ?_
        · rintro i2 x H13 hx ⟨s13, h13⟩
          obtain ⟨qk2, hqk2, rfl⟩ := lmap_at hx
          have hL13 := hL12.grow s13
          obtain ⟨⟨M, C, r, hc, hI, hkk, hs3, _⟩, _⟩ := id hL13
          obtain ⟨y2, hy2, hnm2, _⟩ := nmk_at hkk hqk2
          have hown := hI.g.tok (t := y2.P.own) fun z => own_le hI.c.s (hI.c.p i2 y2 hy2) hy2 z
          have hc' := hc.grow (msk_same (M := [b]))
          obtain ⟨p, hp, hpg⟩ := hc'.at_ hy2
          have hT := hpg.pr.own.mono msk_same
          obtain ⟨tdx, tl, tv, ht1, ht2⟩ := id hT
          refine ⟨rfl, _, rfl, co, r.dx, _, rfl, hc'.ins, rfl, _, rfl, co, M, C, r, y2, p, i2, by rw [hnm2]; rfl, hc', hy2, hp, p.r.o, tdx, _, rfl, ht1, rfl, p.r.o, y2.P.own, rfl, hT, fun l hl => ⟨l, rfl, ⟨_, SqL.of upd_same⟩, fun D2 hD2 => ?_⟩⟩
          have sl13 := same_upd (o := .lst (y2.P.own.map V.int)) hl
          refine flt_it (K := K) (fun _ => false) (t := y2.P.own) upd_same hD2 (by show 16 < 17; decide) (by have := hown.2.2.1; omega) (fun z H14 R hz s14 hR => ?_) (fun H14 s14 h14 => ?_)
          · refine ⟨_, rfl, _, rfl, se', _, rfl, .inl (SqL.of (s14 _ _ (sl13 _ _ (hL13.at_ hse7)))), rfl, flat_ints _, _, rfl, ?_⟩
            show R (!inV (.int z) ((G.edit j (freshes nu mm) dd).seen.map V.int)) H14
            rw [inV_ints, decide_eq_true (hown.2.1 z hz)]
            exact hR H14 same_refl
          rw [List.filter_eq_nil_iff.mpr (fun _ _ => Bool.false_ne_true)] at h14
          refine ⟨lk 0 (by decide), fun e he => ⟨D2, e, [], rfl, rfl, SqL.of ((same_upd he) _ _ h14), SqL.of upd_same, _, rfl, iteF ?_⟩⟩
          have s15 := (sl13.trans s14).trans (same_upd (o := .lst []) he)
          exact ⟨s13.trans s15, s15 _ _ h13⟩
        · rintro H13 ⟨s13, h13⟩
          refine ⟨lk 0 (by decide), fun e he => ⟨D, e, [], rfl, rfl, SqL.of ((same_upd he) _ _ h13), SqL.of upd_same, _, rfl, iteF ?_⟩⟩
          exact ⟨_, _, _, _, _, se', go', li', st', I7, _, rfl, sI3.trans (sI36.trans sI7), hR6.mono sI7, hgx6, hL12.grow (s13.trans (same_upd he))⟩
      · rintro σ H5 ⟨v5, v10, v11, v12, v13, se, go, li, st, I3, G, rfl, sI3, hR, hgx, hL5⟩
        exact hN _ _ ⟨v5, v10, v11, v12, v13, se, go, li, st, I3, G, rfl, sI3, hR, hgx, hL5.more (by simp)⟩
    clear hR hL4
    rintro σ H5 ⟨v5, v10, v11, v12, v13, se, go, li, st, I3, G, rfl, sI3, hR, hgx, hL5⟩
    -- all is sent and delivered
    refine seq_join (fun σ H6 => σ = [some (.ref b), some (.ref ch), some (.ref co), some (.ref sl), some (.ref kd), v5, some (.ref se), some (.ref go), some (.ref li), some (.ref st), v10, v11, v12, v13, none, none, none] ∧ LawG c b I3 co kk G (fun C => quietB C = true) (k + 176) H6) (fun N hN => ?_) ?_
    · obtain ⟨⟨M, C, r, hc, hI, hkk, hs3, _⟩, _⟩ := id hL5
      refine ⟨[b], hL5.fbl, _, rfl, co, r.dx, _, rfl, hc.ins, rfl, co, M, C, r, G, rfl, hc, hI, by rw [nmk_len hkk]; omega, fun C' v hI' hq' hk' H' M' r' s' h' hf => hN _ _ ⟨rfl, hL5.back hf ⟨M', C', r', h', hI', hk'.trans hkk, hs3.trans s', hq'⟩⟩⟩
    rintro σ H6 ⟨rfl, hL6⟩
    obtain ⟨⟨M, C, r, hc, hI, hkk, hs3, hq⟩, o6, hb6, hB6⟩ := id hL6
    obtain ⟨hse, ⟨gone, hgo, hg1, hg2, hgl⟩, ⟨as, hli, hrows, hasl⟩, _, hne⟩ := hR
    refine ⟨_, rfl, _, rfl, _, rfl, _, rfl, _, rfl, co, sl, se, go, li, M, C, r, G, kk, gone, as, rfl, hc.grow msk_same, hI, hq, hkk, hgx, by omega, hL6.at_ (sI3 _ _ hslI2), hL6.at_ hse, hL6.at_ hgo, hg1, hg2, hL6.at_ hli, pr_imp (fun _ _ z => LAt.mono hL6.same z) hrows, fun H' s' => ?_⟩
    refine q H' ?_ ⟨o6, s' _ _ hb6, hB6.mono (by omega)⟩
    exact ((((s01.trans sI02).trans sI3).trans hs3).trans msk_same).trans (msk_mono s')
end
end Tc
/-! # The walks: the law -/
namespace Tc
open PySem PySem.Spec PyProof.Rows L2
section
variable {P : Program} {w : World} {K : PySem.W.Frag} {mg : Str → Option Value} {base : Heap} {c : Cs}
/- law: 0 _law_script, 1 _law_index, 2 _law_bag_here, 3 _law_turn -/
theorem sc_law : FnScope ["_law_script", "_law_index", "_law_bag_here", "_law_turn"] ["_law_script"] (defScope s_law) := ⟨rfl, rfl, rfl, by decide +kernel, rfl, by decide +kernel, by decide +kernel⟩
theorem bi_law : BindsB "law" "law" s_law ["_law_script"] := fun _ _ _ _ _ _ us hl => match us, hl with | [_], _ => rfl
def spLaw (K : PySem.W.Frag) : Sp := fun vs H Q _ => ∃ (a : Addr) (ns : List Int), vs = [.ref a] ∧ SqL K H a (ns.map V.int) ∧ ns.length ≤ 63 ∧ ∀ H', Q (.bl true) H'
theorem law_len : ∀ vs H Q E, spLaw K vs H Q E → vs.length = (["_law_script"] : List Str).length := fun vs H Q E h => by
  obtain ⟨a, ns, rfl, _⟩ := h
  rfl
theorem law_body (T : Txt K mg c) (G_l_cell : GF P w K mg base 1 "_law_cell" ["_law_script", "_law_index"] (spLCell K)) (G_l_bag : GF P w K mg base 1 "_law_bag" ["_law_cell_here"] spLBag) (G_l_right : GF P w K mg base 13 "_law_right" ["_law_bag_here"] spLRight) : Body P w K mg base 13 ["_law_script", "_law_index", "_law_bag_here", "_law_turn"] "law" s_law (spLaw K) := by
  intro f cdv A outer s H vs Q E hr h
  · obtain ⟨a, ns, rfl, ha, hl, q⟩ := h
    refine ⟨_, (pss_cons (ps_for PassesOwn.never rfl (pi_range1 (by rfl) T.z_range (pa_cons (pe_callB (call_max2 rfl) (by rfl) T.z_max (by decide +kernel) (pa_cons pe_int (pa_cons (pe_callB (call_min2 rfl) (by rfl) T.z_min (by decide +kernel) (pa_cons pe_int (pa_cons (pe_callB call_len_seq (by rfl) T.z_len (by decide +kernel) (pa_cons (pv 0) pa_nil)) pa_nil))) pa_nil))) pa_nil)) (pg_name (i := 1) sc_law.nd rfl (Or.inl rfl))
      (pss_cons (ps_set (i := 2) sc_law.nd rfl (Or.inl rfl) (pe_gf G_l_bag hr (pa_cons (pe_gf G_l_cell hr (pa_cons (pv 0) (pa_cons (pv 1) pa_nil))) pa_nil)))
      (pss_one (ps_for PassesOwn.never rfl (pi_range1 (by rfl) T.z_range (pa_cons pe_int pa_nil)) (pg_name (i := 3) sc_law.nd rfl (Or.inl rfl))
      (pss_one (ps_if (pt_not (pt_val (pe_gf G_l_right hr (pa_cons (pv 2) pa_nil)))) (pss_one (ps_ret pe_bl)) pss_nil))))))
      (pss_one (ps_ret pe_bl))), ?_⟩
    refine seq_join (fun σ H1 => True) (fun N hN => ?_) ?_
    · have hmax : ∃ n : Nat, n ≤ 100 ∧ (if (if (((ns.map V.int).length : Nat) : Int) < 4 then (((ns.map V.int).length : Nat) : Int) else 4) > 2 then (if (((ns.map V.int).length : Nat) : Int) < 4 then (((ns.map V.int).length : Nat) : Int) else 4) else 2) = (n : Int) := by
        rw [List.length_map]
        by_cases h1 : ((ns.length : Nat) : Int) < 4
        · rw [if_pos h1]
          by_cases h2 : ((ns.length : Nat) : Int) > 2
          · rw [if_pos h2]
            exact ⟨ns.length, by omega, rfl⟩
          · rw [if_neg h2]
            exact ⟨2, by omega, rfl⟩
        · rw [if_neg h1, if_pos (by decide)]
          exact ⟨4, by omega, rfl⟩
      obtain ⟨n, hn, en⟩ := hmax
      refine ⟨_, rfl, a, _, rfl, .inl ha, _, _, rfl, _, _, rfl, _, rfl, ?_⟩
      rw [en]
      refine ⟨by omega, by omega, for_range (fun i σ H1 => ∃ v1 v2 v3, σ = [some (.ref a), v1, v2, v3] ∧ Same H H1) ⟨none, none, none, rfl, same_refl⟩ ?_ ?_⟩
      · rintro i σ H1 hi ⟨v1, v2, v3, rfl, s1⟩
        have hi : i < n := by simpa using hi
        refine seq_join (fun σ H2 => ∃ (v1 : Option V) (b : Addr), σ = [some (.ref a), v1, some (.ref b), v3] ∧ H b = none ∧ Same H H2 ∧ BagAt H2 b 0) (fun N2 hN2 => ?_) ?_
        · refine ⟨_, rfl, _, rfl, a, ns, i, ?_, s1.seq ha, by omega, fun z => ⟨z, rfl, fun p o hp ho => hN2 _ _ ⟨_, p, rfl, s1.free hp, s1.trans (same_upd hp), o, upd_same, ho⟩⟩⟩
          show [V.ref a, V.int (0 + (i : Int))] = _
          rw [Int.zero_add]
        rintro σ H2 ⟨v1, b, rfl, hb, s2, hb2⟩
        refine ⟨3, rfl, by decide, by decide, for_range (fun j σ H3 => ∃ v3, σ = [some (.ref a), v1, some (.ref b), v3] ∧ Same H H3 ∧ BagAt H3 b (200 * j)) ⟨v3, rfl, s2, hb2⟩ ?_ ?_⟩
        · rintro j σ H3 hj ⟨v3, rfl, s3, hb3⟩
          have hj : j < 3 := by simpa using hj
          refine ⟨_, rfl, b, 200 * j, rfl, hb3, by omega, fun H4 s4 hb4 => ⟨true, rfl, iteF ⟨_, rfl, fun x u e => ?_, ?_⟩⟩⟩
          · have nx : x ≠ b := ne_of_none e hb
            refine msk_same (M := [b]) _ _ (s4 x u ?_)
            rw [msk_at (by simpa using nx)]
            exact s3 _ _ e
          · exact hb4
        · rintro σ H3 ⟨v3, rfl, s3, _⟩
          exact ⟨_, _, _, rfl, s3⟩
      · rintro σ H1 _
        exact hN _ _ trivial
    rintro σ H1 _
    exact q H1
end
end Tc
/-! # The end: the contracts in their order; the head; the law holds -/
namespace Tc
open PySem PySem.Spec PyProof.Rows L2
section
variable {P : Program} {w : World} {K : PySem.W.Frag} {mg : Str → Option Value} {base : Heap} {c : Cs}
theorem law_all (T : Txt K mg c) : Body P w K mg base 13 ["_law_script", "_law_index", "_law_bag_here", "_law_turn"] "law" s_law (spLaw K) := by
  have G_is_integer := ok_is_integer (P := P) (w := w) (base := base) T
  have G_is_char := ok_is_char (P := P) (w := w) (base := base) T G_is_integer
  have G_is_list := ok_is_list (P := P) (w := w) (base := base) T
  have G_is_kind := ok_is_kind (P := P) (w := w) (base := base) T
  have G_is_name := ok_is_name (P := P) (w := w) (base := base) T
  have G_need_char := ok_need_char (P := P) (w := w) (base := base) T G_is_char
  have G_need_kind := ok_need_kind (P := P) (w := w) (base := base) T G_is_kind
  have G_need_chars := ok_need_chars (P := P) (w := w) (base := base) T G_is_list G_need_char
  have G_need_text := ok_need_text (P := P) (w := w) (base := base) T
  have G_wide := ok_wide (P := P) (w := w) (base := base) T
  have G_counts_in := ok_counts_in (P := P) (w := w) (base := base) T G_wide
  have G_Text_init := ok_Text_init (P := P) (w := w) (base := base) T G_need_chars G_counts_in
  have G_Text_chars := ok_Text_chars (P := P) (w := w) (base := base) T
  have G_Text_len := ok_Text_len (P := P) (w := w) (base := base) T
  have G_gaps_of := ok_gaps_of (P := P) (w := w) (base := base) T
  have G_normal_rows := ok_normal_rows (P := P) (w := w) (base := base) T G_gaps_of
  have G_OwnRows_init := ok_OwnRows_init (P := P) (w := w) (base := base) T G_normal_rows
  have G_Delta_init := ok_Delta_init (P := P) (w := w) (base := base) T G_gaps_of
  have G_delta_of := ok_delta_of (P := P) (w := w) (base := base) T G_OwnRows_init G_Delta_init
  have G_need_delta := ok_need_delta (P := P) (w := w) (base := base) T
  have G_Delta_length_before := ok_Delta_length_before (P := P) (w := w) (base := base) T
  have G_Delta_need_fit := ok_Delta_need_fit (P := P) (w := w) (base := base) T G_need_text
  have G_Delta_rows := ok_Delta_rows (P := P) (w := w) (base := base) T
  have G_Delta_call := ok_Delta_call (P := P) (w := w) (base := base) T G_Delta_need_fit G_Text_init
  have G_Delta_inverted := ok_Delta_inverted (P := P) (w := w) (base := base) T G_Delta_need_fit G_delta_of
  have G_Delta_over := ok_Delta_over (P := P) (w := w) (base := base) T G_need_delta G_delta_of
  have G_composed := ok_composed (P := P) (w := w) (base := base) T
  have G_Delta_add := ok_Delta_add (P := P) (w := w) (base := base) T G_need_delta G_delta_of G_composed
  have G_Marks_init := ok_Marks_init (P := P) (w := w) (base := base) T G_wide
  have G_Marks_place := ok_Marks_place (P := P) (w := w) (base := base) T
  have G_counted := ok_counted (P := P) (w := w) (base := base) T G_need_delta G_need_text G_Text_len G_Delta_length_before G_need_kind G_Marks_init G_Delta_rows
  have G_is_counted_row := ok_is_counted_row (P := P) (w := w) (base := base) T G_is_list G_is_char G_is_integer
  have G_delta_from := ok_delta_from (P := P) (w := w) (base := base) T G_is_list G_is_counted_row G_need_text G_need_kind G_Marks_init G_Marks_place G_Text_len G_delta_of
  have G_is_edit := ok_is_edit (P := P) (w := w) (base := base) T G_is_list G_is_char G_is_integer
  have G_need_edits := ok_need_edits (P := P) (w := w) (base := base) T G_is_list G_need_text G_need_kind
  have G_stands := ok_stands (P := P) (w := w) (base := base) T G_is_edit G_Marks_place
  have G_rows_of := ok_rows_of (P := P) (w := w) (base := base) T
  have G_together := ok_together (P := P) (w := w) (base := base) T G_need_edits G_Marks_init G_stands G_rows_of G_Text_len G_delta_of
  have G_Program_version := ok_Program_version (P := P) (w := w) (base := base) T
  have G_Program_base := ok_Program_base (P := P) (w := w) (base := base) T
  have G_Program_text := ok_Program_text (P := P) (w := w) (base := base) T
  have G_Program_wait := ok_Program_wait (P := P) (w := w) (base := base) T G_Delta_add G_Delta_call
  have G_Program_own_change := ok_Program_own_change (P := P) (w := w) (base := base) T G_Delta_inverted G_Program_wait
  have G_Program_edit := ok_Program_edit (P := P) (w := w) (base := base) T G_together G_Program_own_change
  have G_Program_send := ok_Program_send (P := P) (w := w) (base := base) T G_counted
  have G_Program_take := ok_Program_take (P := P) (w := w) (base := base) T G_Delta_call G_Delta_over
  have G_Program_need_message := ok_Program_need_message (P := P) (w := w) (base := base) T G_is_integer
  have G_Program_receive := ok_Program_receive (P := P) (w := w) (base := base) T G_Program_need_message G_Delta_call G_delta_from G_Program_take
  have G_Program_init := ok_Program_init (P := P) (w := w) (base := base) T G_is_name G_need_kind G_need_text G_is_integer
  have G_Server_need_version := ok_Server_need_version (P := P) (w := w) (base := base) T G_is_integer
  have G_Server_text0 := ok_Server_text0 (P := P) (w := w) (base := base) T G_Server_need_version
  have G_Server_text := ok_Server_text (P := P) (w := w) (base := base) T G_Server_need_version
  have G_Server_kind_of := ok_Server_kind_of (P := P) (w := w) (base := base) T G_is_name
  have G_Server_message := ok_Server_message (P := P) (w := w) (base := base) T G_counted
  have G_Server_join := ok_Server_join (P := P) (w := w) (base := base) T G_is_name G_need_kind
  have G_Server_init := ok_Server_init (P := P) (w := w) (base := base) T G_need_text
  have G_Server_submit := ok_Server_submit (P := P) (w := w) (base := base) T G_Server_kind_of G_Server_need_version G_delta_from G_Delta_over G_Delta_call G_Server_message
  have G_Company_version := ok_Company_version (P := P) (w := w) (base := base) T
  have G_Company_server_text := ok_Company_server_text (P := P) (w := w) (base := base) T G_Server_text
  have G_Company_program := ok_Company_program (P := P) (w := w) (base := base) T G_is_name
  have G_Company_text := ok_Company_text (P := P) (w := w) (base := base) T G_Company_program G_Program_text
  have G_Company_base := ok_Company_base (P := P) (w := w) (base := base) T G_Company_program G_Program_base
  have G_Company_version_of := ok_Company_version_of (P := P) (w := w) (base := base) T G_Company_program G_Program_version
  have G_Company_queues := ok_Company_queues (P := P) (w := w) (base := base) T G_Company_program
  have G_Company_edit := ok_Company_edit (P := P) (w := w) (base := base) T G_Company_program G_Program_edit
  have G_Company_send := ok_Company_send (P := P) (w := w) (base := base) T G_Company_program G_Program_send
  have G_Company_deliver_down := ok_Company_deliver_down (P := P) (w := w) (base := base) T G_Company_program G_Program_receive
  have G_Company_deliver_up := ok_Company_deliver_up (P := P) (w := w) (base := base) T G_Company_program G_Server_submit G_Company_version
  have G_Company_is_quiet := ok_Company_is_quiet (P := P) (w := w) (base := base) T
  have G_Company_init := ok_Company_init (P := P) (w := w) (base := base) T G_Server_init
  have G_Company_join := ok_Company_join (P := P) (w := w) (base := base) T G_Server_join G_Program_init G_Server_text0
  have G_Company_settle := ok_Company_settle (P := P) (w := w) (base := base) T G_Company_is_quiet G_Company_send G_Company_deliver_up G_Company_deliver_down
  have G_l_cell := ok_l_cell (P := P) (w := w) (base := base) T
  have G_l_bag := ok_l_bag (P := P) (w := w) (base := base) T
  have G_l_take := ok_l_take (P := P) (w := w) (base := base) T
  have G_l_width := ok_l_width (P := P) (w := w) (base := base) T
  have G_l_numbers := ok_l_numbers (P := P) (w := w) (base := base) T G_l_width
  have G_l_counted_edits := ok_l_counted_edits (P := P) (w := w) (base := base) T G_l_numbers
  have G_l_fresh := ok_l_fresh (P := P) (w := w) (base := base) T
  have G_l_in_order := ok_l_in_order (P := P) (w := w) (base := base) T
  have G_l_send_all := ok_l_send_all (P := P) (w := w) (base := base) T G_l_take G_Company_queues G_Company_send G_Company_deliver_up G_Company_deliver_down
  have G_l_edited := ok_l_edited (P := P) (w := w) (base := base) T G_l_take G_l_fresh G_l_counted_edits G_Text_chars G_Company_text G_Company_edit
  have G_l_end_right := ok_l_end_right (P := P) (w := w) (base := base) T G_l_in_order G_Text_chars G_Company_is_quiet G_Company_server_text G_Company_text G_Company_base G_Company_version_of G_Company_version G_Company_queues
  have G_l_right := ok_l_right (P := P) (w := w) (base := base) T G_l_take G_l_fresh G_l_edited G_l_send_all G_l_end_right G_Text_init G_Company_init G_Company_join G_Text_chars G_Company_text G_Company_settle
  exact law_body T G_l_cell G_l_bag G_l_right
theorem facts {h : Heap} {f : Addr} (X : K.In h) (G : h.Ns mainGlobals mg) (hfa : mg ("law" : Str) = some (.ref f)) (c : Told parts K) :
    ∃ fd : FuncData, (∀ (s : Shared) (v : Value), BindsTo s fd ⟨[v], []⟩ [("_law_script", v)]) ∧ ∀ base : Heap, K.In base → base.Ns mainGlobals mg → FnOk P w K mg base CX0 14 f fd ["_law_script"] (spLaw K) := by
  have T := txt_of X G c
  obtain ⟨f0, fd, F, hm⟩ := T.d_law.ex
  have e : f0 = f := by
    have := hm.symm.trans hfa
    cases this
    rfl
  subst e
  have b := FunD.bindsA (ps := ["_law_script"]) F fun _ _ _ _ _ _ us hl => match us, hl with | [_], _ => rfl
  exact ⟨fd, fun s v => b s [v] rfl, fun base _ _ => FunX.okB F sc_law law_len (law_all T)⟩
end
end Tc
open PySem PySem.W PySem.Calls PyProof.Rows
theorem PySem.Challenge.cw_threecounts_k80_whole_all_alike_at_the_e_holds : PySem.Challenge.rw_threecounts_k80_whole_all_alike_at_the_e.Holds := by
  w_on; o_law
  refine HandSHeadRun.head_any (r := OpenLaw.row PySem.Challenge.rw_threecounts_k80_whole_all_alike_at_the_e) (q := view (OpenLaw.row PySem.Challenge.rw_threecounts_k80_whole_all_alike_at_the_e).prog [117]) (H := Tc.hk) (ob := Tc.ob) (M := 14000) (loose := Tc.names) (d := HandSHeadRun.topDef (OpenLaw.row PySem.Challenge.rw_threecounts_k80_whole_all_alike_at_the_e).prog 117) (kwd := []) Tc.ob_eq
    (by kernel_rfl) (fun s => by kernel_rfl) Tc.run (by kernel_rfl) (by kernel_rfl) (by kernel_rfl) (by rfl) (by first | assumption | decide +kernel) (by decide +kernel) ⟨rfl, rfl, rfl, rfl, rfl, by decide +kernel⟩ ?hw ?hc
  case hw => w_witness2
  case hc =>
    refine L2.walk_ofE (l := PySem.Challenge.rw_threecounts_k80_whole_all_alike_at_the_e) (n := 63) (k := 14) (x := "_law_script") (CX := L2.CX0) rfl (by decide) (by kernel_rfl) ⟨rfl, by decide, by decide⟩ ?F (fun _ _ _ _ z => z)
    intro w mg fa h Y G hmg0
    obtain ⟨K, KX, c⟩ := Y
    have hmg : mg ("law" : PySem.Str) = some (.ref fa) := by
      have e : (HandSHeadRun.topDef (OpenLaw.row PySem.Challenge.rw_threecounts_k80_whole_all_alike_at_the_e).prog 117).name = ("law" : PySem.Str) := by kernel_rfl
      rw [← e]
      exact hmg0
    obtain ⟨fd, hb, hF⟩ := Tc.facts (P := (PySem.Challenge.rw_threecounts_k80_whole_all_alike_at_the_e).prog) (w := w) KX G hmg c
    exact ⟨K, fd, Tc.spLaw K, KX, hb, fun H a ns hl _ hS => ⟨a, ns, rfl, hS, hl, fun _ => rfl⟩, hF⟩
