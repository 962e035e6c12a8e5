import PyProof.Rows.All
import Wide.All
import OpenK.AllK
import Wide.FinOn
import KE.KStateDown
import Lean
import HandS.Base
import HandS.Call
import HandS.Ends
import HandS.More
import HandS.Words
import HandS.WordsExc
import HandS.Defaults
import HandS.Property
import HandS.Head0
import HandS.Head1
import HandS.Head2
import HandS.HeadEnd
import HandS.HeadHook1
import HandS.HeadHook2
import HandS.HeadHook4
import HandS.ForMost
import HandS.Star
import HandS.Flow
import HandS.OwnEq
import PyProof.Rows.MatchSeqLen
import PyProof.RulesMatchSeq
import HandS.Walk
import HandS.Codes
import HandS.IsInst
import HandS.FStr
import KE.KUnpackStar
import KE.KDictKeyed
import KE.KDictCopyH
import HandS.DictComp
import HandS.TupLen
import KE.SortKeyHeap
import KE.SortCalls
import HandS.SortKw
import HandS.Exc
import HandS.DictEq
import HandS.ListEq
import PyProof.AutoSeq1
import HandS.TupAny
import HandS.Lambda
import HandS.Small
import HandS.Zip
import HandS.HeadWalk
import PySem.Challenge.RW_leadsever_k88_whole_texts_of_servers_and
set_option Elab.async false
set_option linter.all false
set_option maxRecDepth 100000
set_option maxHeartbeats 0
/-! The text by places; where the top lays each thing. -/
namespace K88
open PySem PySem.Spec PyProof.Rows L2
def top (i : Nat) : Stmt := PySem.Challenge.pw_leadsever_k88_whole_texts_of_servers_and.main.body.getD i (.Pass ⟨0, 0, 0, 0⟩)
abbrev s_is_word : Stmt := top 18
abbrev s_is_address : Stmt := top 19
abbrev s_is_number : Stmt := top 20
abbrev s_is_day : Stmt := top 21
abbrev s_address_key : Stmt := top 23
abbrev s_is_place : Stmt := top 31
abbrev s_is_redirect : Stmt := top 32
abbrev s_is_rule_answer : Stmt := top 33
abbrev s_is_rule : Stmt := top 34
abbrev s_rule_key : Stmt := top 35
abbrev s_Table_init : Stmt := inClass (top 36) 0
abbrev s_Table_eq : Stmt := inClass (top 36) 3
abbrev s_Table_rules : Stmt := inClass (top 36) 4
abbrev s_Server_init : Stmt := inClass (top 39) 0
abbrev s_Server_eq : Stmt := inClass (top 39) 1
abbrev s_Server_days : Stmt := inClass (top 39) 2
abbrev s_Server_set_table : Stmt := inClass (top 39) 3
abbrev s_Server_count_on : Stmt := inClass (top 39) 4
abbrev s_Server_table : Stmt := inClass (top 39) 5
abbrev s_Claim_init : Stmt := inClass (top 43) 0
abbrev s_Claim_as_tuple : Stmt := inClass (top 43) 1
abbrev s_Site_init : Stmt := inClass (top 44) 0
abbrev s_Site_eq : Stmt := inClass (top 44) 1
abbrev s_Site_names : Stmt := inClass (top 44) 2
abbrev s_Site_last : Stmt := inClass (top 44) 3
abbrev s_Site_need_day : Stmt := inClass (top 44) 4
abbrev s_Site_need_known : Stmt := inClass (top 44) 5
abbrev s_Site_need_standing : Stmt := inClass (top 44) 6
abbrev s_Site_need_free : Stmt := inClass (top 44) 7
abbrev s_Site_note : Stmt := inClass (top 44) 8
abbrev s_Site_end_claim : Stmt := inClass (top 44) 9
abbrev s_Site_stand : Stmt := inClass (top 44) 10
abbrev s_Site_put : Stmt := inClass (top 44) 11
abbrev s_Site_put_page : Stmt := inClass (top 44) 12
abbrev s_Site_put_section : Stmt := inClass (top 44) 13
abbrev s_Site_need_place : Stmt := inClass (top 44) 14
abbrev s_Site_move : Stmt := inClass (top 44) 15
abbrev s_Site_bring : Stmt := inClass (top 44) 16
abbrev s_Site_merge : Stmt := inClass (top 44) 17
abbrev s_Site_take : Stmt := inClass (top 44) 18
abbrev s_Site_sort_of : Stmt := inClass (top 44) 19
abbrev s_Site_events : Stmt := inClass (top 44) 22
abbrev s_Site_claims : Stmt := inClass (top 44) 23
abbrev s_figure : Stmt := top 47
abbrev s_address_text : Stmt := top 48
abbrev s_read_address : Stmt := top 49
abbrev s_place_text : Stmt := top 50
abbrev s_read_place : Stmt := top 51
abbrev s_answer_text : Stmt := top 52
abbrev s_rule_text : Stmt := top 53
abbrev s_read_answer : Stmt := top 54
abbrev s_read_rule : Stmt := top 55
abbrev s_table_text : Stmt := top 56
abbrev s_read_table : Stmt := top 57
abbrev s_server_text : Stmt := top 58
abbrev s_read_parts : Stmt := top 59
abbrev s_read_server : Stmt := top 60
abbrev s_event_text : Stmt := top 61
abbrev s_site_text : Stmt := top 62
abbrev s_need_sort : Stmt := top 63
abbrev s_happen : Stmt := top 64
abbrev s_read_site : Stmt := top 65
abbrev s_law_well : Stmt := top 67
abbrev s_law_draw : Stmt := top 68
abbrev s_law_choose : Stmt := top 69
abbrev s_law_address : Stmt := top 70
abbrev s_law_rule : Stmt := top 71
abbrev s_law_rules : Stmt := top 72
abbrev s_law_address_text : Stmt := top 73
abbrev s_law_rule_text : Stmt := top 74
abbrev s_law_table_text : Stmt := top 75
abbrev s_law_server_text : Stmt := top 76
abbrev s_law_event_text : Stmt := top 77
abbrev s_law_site_steps : Stmt := top 78
abbrev s_law_happen : Stmt := top 79
abbrev s_law_site : Stmt := top 80
abbrev s_law_tables : Stmt := top 81
abbrev s_law_server : Stmt := top 82
abbrev s_law : Stmt := top 83
abbrev a_is_word : Addr := 270
abbrev a_is_address : Addr := 275
abbrev a_is_number : Addr := 282
abbrev a_is_day : Addr := 289
abbrev a_address_key : Addr := 303
abbrev a_is_place : Addr := 321
abbrev a_is_redirect : Addr := 326
abbrev a_is_rule_answer : Addr := 331
abbrev a_is_rule : Addr := 338
abbrev a_rule_key : Addr := 345
abbrev a_Table_init : Addr := 359
abbrev a_Table_eq : Addr := 380
abbrev a_Table_rules : Addr := 387
abbrev a_Server_init : Addr := 440
abbrev a_Server_eq : Addr := 447
abbrev a_Server_days : Addr := 454
abbrev a_Server_set_table : Addr := 462
abbrev a_Server_count_on : Addr := 467
abbrev a_Server_table : Addr := 474
abbrev a_Claim_init : Addr := 531
abbrev a_Claim_as_tuple : Addr := 538
abbrev a_Site_init : Addr := 559
abbrev a_Site_eq : Addr := 566
abbrev a_Site_names : Addr := 573
abbrev a_Site_last : Addr := 581
abbrev a_Site_need_day : Addr := 589
abbrev a_Site_need_known : Addr := 596
abbrev a_Site_need_standing : Addr := 603
abbrev a_Site_need_free : Addr := 610
abbrev a_Site_note : Addr := 617
abbrev a_Site_end_claim : Addr := 624
abbrev a_Site_stand : Addr := 631
abbrev a_Site_put : Addr := 638
abbrev a_Site_put_page : Addr := 645
abbrev a_Site_put_section : Addr := 652
abbrev a_Site_need_place : Addr := 659
abbrev a_Site_move : Addr := 666
abbrev a_Site_bring : Addr := 673
abbrev a_Site_merge : Addr := 680
abbrev a_Site_take : Addr := 687
abbrev a_Site_sort_of : Addr := 694
abbrev a_Site_events : Addr := 715
abbrev a_Site_claims : Addr := 720
abbrev a_figure : Addr := 751
abbrev a_address_text : Addr := 758
abbrev a_read_address : Addr := 765
abbrev a_place_text : Addr := 772
abbrev a_read_place : Addr := 779
abbrev a_answer_text : Addr := 784
abbrev a_rule_text : Addr := 791
abbrev a_read_answer : Addr := 796
abbrev a_read_rule : Addr := 803
abbrev a_table_text : Addr := 808
abbrev a_read_table : Addr := 813
abbrev a_server_text : Addr := 818
abbrev a_read_parts : Addr := 825
abbrev a_read_server : Addr := 832
abbrev a_event_text : Addr := 837
abbrev a_site_text : Addr := 842
abbrev a_need_sort : Addr := 849
abbrev a_happen : Addr := 854
abbrev a_read_site : Addr := 861
abbrev a_law_well : Addr := 868
abbrev a_law_draw : Addr := 875
abbrev a_law_choose : Addr := 882
abbrev a_law_address : Addr := 887
abbrev a_law_rule : Addr := 894
abbrev a_law_rules : Addr := 901
abbrev a_law_address_text : Addr := 908
abbrev a_law_rule_text : Addr := 915
abbrev a_law_table_text : Addr := 920
abbrev a_law_server_text : Addr := 927
abbrev a_law_event_text : Addr := 934
abbrev a_law_site_steps : Addr := 939
abbrev a_law_happen : Addr := 946
abbrev a_law_site : Addr := 953
abbrev a_law_tables : Addr := 960
abbrev a_law_server : Addr := 967
abbrev a_law : Addr := 972
abbrev a_Table : Addr := 415
abbrev a_Server : Addr := 513
abbrev a_Claim : Addr := 541
abbrev a_Site : Addr := 742
/-! ### a def where it lies -/
structure DefP where
  at_ : Addr
  name : Str
  qual : Str
  st : Stmt
  dfl : List V := []
def fnP (K : PySem.W.Frag) (a : Addr) : He.FnW := match K.lookup a with
  | some ⟨_, _, .func fd, _⟩ => some (fd.name, fd.qualname, fd.params, fd.body, fd.scope, fd.globals, fd.closure, fd.builtins)
  | _ => none
def DefP.val (d : DefP) : He.FnW := some (d.name, d.qual, defArgs d.st, .stmts (defBody d.st), defScope d.st, mainGlobals, [], builtinsNs)
def DefP.ok (K : PySem.W.Frag) (d : DefP) : Bool := match K.lookup d.at_ with
  | some ⟨_, _, .func fd, _⟩ => PySem.W.codeIn K fd.code d.qual && He.dflB K fd.defaults d.dfl
  | _ => false
theorem DefP.funD {K : PySem.W.Frag} {d : DefP} (e : fnP K d.at_ = d.val) (c2 : d.ok K = true) : ∃ fd, FunD K d.name d.qual (defArgs d.st) (defBody d.st) (defScope d.st) d.dfl [] d.at_ fd := by
  unfold fnP at e
  unfold DefP.ok at c2
  cases q : K.lookup d.at_ with
  | none =>
    rw [q] at c2
    cases c2
  | some o =>
    obtain ⟨oc, od, dt, osl⟩ := o
    rw [q] at c2 e
    cases dt with
    | func fd =>
      obtain ⟨n1, n2, n3, n4, n5, n6, n7, n8, n9, n10, n11, n12, n13, n14, n15⟩ := fd
      have e2 : (some (n1, n2, n3, n4, n5, n6, n7, n15) : He.FnW) = some (d.name, d.qual, defArgs d.st, .stmts (defBody d.st), defScope d.st, mainGlobals, [], builtinsNs) := e
      simp only [Option.some.injEq, Prod.mk.injEq] at e2
      obtain ⟨h1, h2, h3, h4, h5, h6, h7, h8⟩ := e2
      subst h1 h2 h3 h4 h5 h6 h7 h8
      obtain ⟨k1, k2⟩ := He.ba (show (PySem.W.codeIn K n13 d.qual && He.dflB K n8 d.dfl) = true from c2)
      refine ⟨_, ⟨oc, od, n8, n9, n10, n11, n12, n13, n14, osl, rfl, q, k1, He.dflB_ok k2, .inl rfl⟩, ?_⟩
      show (match K.lookup d.at_ with
        | some ⟨_, _, .func _, _⟩ => true
        | some ⟨_, _, .cls _, _⟩ => PySem.W.specialIn K (.ref d.at_) "__call__" == some (some (.builtin "type.__call__"))
        | _ => false) = true
      rw [q]
    | _ => cases c2
/-! ### facts -/
inductive Fc where
  | glo (x : Str) (a : Addr)
  | free (x : Str)
  | int (x : Str) (i : Int)
  | str (x z : Str)
  | cls (C : Addr)
  | noat (C : Addr) (f : Str)
  | meth (C : Addr) (m : Str) (f : Addr)
  | mkr (C f : Addr)
  | prop (C : Addr) (f : Str) (p g : Addr)
  | inst (C : Addr)
  | mt0 (a : Addr)
def Fc.ok (K : PySem.W.Frag) : Fc → Bool
  | .glo x a => He.eqO (PySem.W.nsIn K mainGlobals x) (some (some (.ref a)))
  | .free x => He.eqO (PySem.W.nsIn K mainGlobals x) (some none)
  | .int x i => (He.Fa.int x i).ok K
  | .str x z => (He.Fa.str x z).ok K
  | .cls C => PySem.W.plainGet K C Str.empty && (PySem.W.hasDictIn K C && (PySem.W.plainOver K C && He.eqO (PySem.W.findIn K (.ref C) "__setattr__") (some (some (.builtin "object.__setattr__")))))
  | .noat C f => He.eqO (PySem.W.findIn K (.ref C) f) (some none)
  | .meth C m f => He.eqO (PySem.W.findIn K (.ref C) m) (some (some (.ref f))) && (PySem.W.isFn K (.ref f) && PySem.W.keepIn K (.ref f))
  | .mkr C f => PySem.W.makesIn K C && (He.eqO (PySem.W.findIn K (.ref C) "__init__") (some (some (.ref f))) && (PySem.W.isFn K (.ref f) && PySem.W.keepIn K (.ref C)))
  | .prop C f p g => He.eqO (PySem.W.findIn K (.ref C) f) (some (some (.ref p))) && (He.eqO (PySem.W.specialIn K (.ref p) "__get__") (some (some (.builtin "property.__get__"))) &&
      (decide (PySem.W.takesIn K (.ref p) = some true) && (match PySem.W.recIn K p "property" with
        | some (.ref h :: _) => decide (h = g)
        | _ => false)))
  | .inst C => He.eqO (PySem.W.findIn K (.ref C) "__class__") (some (some (.builtin "object.__class__"))) && (He.eqO (PySem.W.specialIn K (.builtin "object.__class__") "__get__") (some (some (.builtin "getset_descriptor.__get__"))) &&
      (decide (PySem.W.takesIn K (.builtin "object.__class__") = some true) && decide (PySem.W.mroIn K C (.type "object") = some true)))
  | .mt0 a => (match K.lookup a with
      | some ⟨.type c, _, .seq its _, _⟩ => decide (c = "tuple") && decide (its.size = 0)
      | _ => false)
/-! ### the Hook -/
abbrev AlP : Type := Bool × List He.FnW
def obsP (fa : List Fc) (fn : List DefP) (K : PySem.W.Frag) : AlP := ((fa.all fun f => f.ok K) && fn.all fun d => d.ok K, fn.map fun d => fnP K d.at_)
def valP (fn : List DefP) : AlP := (true, fn.map DefP.val)
def SaysP (fa : List Fc) (fn : List DefP) (K : PySem.W.Frag) : Prop := obsP fa fn K = valP fn
def obsPG (as : List Addr) (fa : List Fc) (fn : List DefP) (g : Addr → Option Obj) : AlP := obsP fa fn (He.frG g as)
def hookP (as : List Addr) (fa : List Fc) (fn : List DefP) : PySem.W.Hook where
  α := AlP
  obs := fun s => obsPG as fa fn s.heap.get?
  val := fun _ => valP fn
  says := fun _ h => ∃ K : PySem.W.Frag, K.In h ∧ SaysP fa fn K
  of := fun _ _ e => ⟨_, He.frG_in, e⟩
  keeps := fun _ _ _ ⟨K, hK, c⟩ k => ⟨K, PySem.W.Frag.In.keeps hK k, c⟩
theorem obsPG_eq {as : List Addr} {fa : List Fc} {fn : List DefP} {g : Addr → Option Obj} {s : Shared} (h : ∀ a, g a = s.heap.get? a) : obsPG as fa fn g = (hookP as fa fn).obs s := by
  have e : g = s.heap.get? := funext h
  rw [e] <;> rfl
section
variable {fa : List Fc} {fn : List DefP} {K : PySem.W.Frag}
theorem SaysP.fact (c : SaysP fa fn K) {f : Fc} (h : f ∈ fa) : f.ok K = true := by
  have c1 := (He.ba (show ((fa.all fun f => f.ok K) && fn.all fun d => d.ok K) = true from congrArg (fun z : AlP => z.1) c)).1
  exact List.all_eq_true.mp c1 f h
theorem SaysP.def_ (c : SaysP fa fn K) (i : Nat) {d : DefP} (h : fn[i]? = some d := by rfl) : ∃ fd, FunD K d.name d.qual (defArgs d.st) (defBody d.st) (defScope d.st) d.dfl [] d.at_ fd := by
  have c2 := (He.ba (show ((fa.all fun f => f.ok K) && fn.all fun d => d.ok K) = true from congrArg (fun z : AlP => z.1) c)).2
  have e : fn.map (fun d => fnP K d.at_) = fn.map DefP.val := congrArg (fun z : AlP => z.2) c
  have e2 : (fn.map fun d => fnP K d.at_)[i]? = (fn.map DefP.val)[i]? := by rw [e]
  rw [List.getElem?_map, List.getElem?_map, h] at e2
  exact DefP.funD (Option.some.inj e2) (List.all_eq_true.mp c2 d (List.mem_of_getElem? h))
end
def d_is_word : DefP := ⟨270, "is_word", "is_word", s_is_word, []⟩
def d_is_address : DefP := ⟨275, "is_address", "is_address", s_is_address, []⟩
def d_is_number : DefP := ⟨282, "is_number", "is_number", s_is_number, []⟩
def d_is_day : DefP := ⟨289, "is_day", "is_day", s_is_day, []⟩
def d_address_key : DefP := ⟨303, "address_key", "address_key", s_address_key, []⟩
def d_is_place : DefP := ⟨321, "is_place", "is_place", s_is_place, []⟩
def d_is_redirect : DefP := ⟨326, "is_redirect", "is_redirect", s_is_redirect, []⟩
def d_is_rule_answer : DefP := ⟨331, "is_rule_answer", "is_rule_answer", s_is_rule_answer, []⟩
def d_is_rule : DefP := ⟨338, "is_rule", "is_rule", s_is_rule, []⟩
def d_rule_key : DefP := ⟨345, "rule_key", "rule_key", s_rule_key, []⟩
def d_Table_init : DefP := ⟨359, "__init__", "Table.__init__", s_Table_init, [.ref 353]⟩
def d_Table_eq : DefP := ⟨380, "__eq__", "Table.__eq__", s_Table_eq, []⟩
def d_Table_rules : DefP := ⟨387, "rules", "Table.rules", s_Table_rules, []⟩
def d_Server_init : DefP := ⟨440, "__init__", "Server.__init__", s_Server_init, []⟩
def d_Server_eq : DefP := ⟨447, "__eq__", "Server.__eq__", s_Server_eq, []⟩
def d_Server_days : DefP := ⟨454, "days", "Server.days", s_Server_days, []⟩
def d_Server_set_table : DefP := ⟨462, "set_table", "Server.set_table", s_Server_set_table, []⟩
def d_Server_count_on : DefP := ⟨467, "count_on", "Server.count_on", s_Server_count_on, []⟩
def d_Server_table : DefP := ⟨474, "table", "Server.table", s_Server_table, []⟩
def d_Claim_init : DefP := ⟨531, "__init__", "Claim.__init__", s_Claim_init, []⟩
def d_Claim_as_tuple : DefP := ⟨538, "as_tuple", "Claim.as_tuple", s_Claim_as_tuple, []⟩
def d_Site_init : DefP := ⟨559, "__init__", "Site.__init__", s_Site_init, []⟩
def d_Site_eq : DefP := ⟨566, "__eq__", "Site.__eq__", s_Site_eq, []⟩
def d_Site_names : DefP := ⟨573, "names", "Site.names", s_Site_names, []⟩
def d_Site_last : DefP := ⟨581, "last", "Site.last", s_Site_last, []⟩
def d_Site_need_day : DefP := ⟨589, "need_day", "Site.need_day", s_Site_need_day, []⟩
def d_Site_need_known : DefP := ⟨596, "need_known", "Site.need_known", s_Site_need_known, []⟩
def d_Site_need_standing : DefP := ⟨603, "need_standing", "Site.need_standing", s_Site_need_standing, []⟩
def d_Site_need_free : DefP := ⟨610, "need_free", "Site.need_free", s_Site_need_free, []⟩
def d_Site_note : DefP := ⟨617, "note", "Site.note", s_Site_note, []⟩
def d_Site_end_claim : DefP := ⟨624, "end_claim", "Site.end_claim", s_Site_end_claim, []⟩
def d_Site_stand : DefP := ⟨631, "stand", "Site.stand", s_Site_stand, []⟩
def d_Site_put : DefP := ⟨638, "put", "Site.put", s_Site_put, []⟩
def d_Site_put_page : DefP := ⟨645, "put_page", "Site.put_page", s_Site_put_page, []⟩
def d_Site_put_section : DefP := ⟨652, "put_section", "Site.put_section", s_Site_put_section, []⟩
def d_Site_need_place : DefP := ⟨659, "need_place", "Site.need_place", s_Site_need_place, []⟩
def d_Site_move : DefP := ⟨666, "move", "Site.move", s_Site_move, []⟩
def d_Site_bring : DefP := ⟨673, "bring", "Site.bring", s_Site_bring, []⟩
def d_Site_merge : DefP := ⟨680, "merge", "Site.merge", s_Site_merge, []⟩
def d_Site_take : DefP := ⟨687, "take", "Site.take", s_Site_take, []⟩
def d_Site_sort_of : DefP := ⟨694, "sort_of", "Site.sort_of", s_Site_sort_of, []⟩
def d_Site_events : DefP := ⟨715, "events", "Site.events", s_Site_events, []⟩
def d_Site_claims : DefP := ⟨720, "claims", "Site.claims", s_Site_claims, []⟩
def d_figure : DefP := ⟨751, "figure", "figure", s_figure, []⟩
def d_address_text : DefP := ⟨758, "address_text", "address_text", s_address_text, []⟩
def d_read_address : DefP := ⟨765, "read_address", "read_address", s_read_address, []⟩
def d_place_text : DefP := ⟨772, "place_text", "place_text", s_place_text, []⟩
def d_read_place : DefP := ⟨779, "read_place", "read_place", s_read_place, []⟩
def d_answer_text : DefP := ⟨784, "answer_text", "answer_text", s_answer_text, []⟩
def d_rule_text : DefP := ⟨791, "rule_text", "rule_text", s_rule_text, []⟩
def d_read_answer : DefP := ⟨796, "read_answer", "read_answer", s_read_answer, []⟩
def d_read_rule : DefP := ⟨803, "read_rule", "read_rule", s_read_rule, []⟩
def d_table_text : DefP := ⟨808, "table_text", "table_text", s_table_text, []⟩
def d_read_table : DefP := ⟨813, "read_table", "read_table", s_read_table, []⟩
def d_server_text : DefP := ⟨818, "server_text", "server_text", s_server_text, []⟩
def d_read_parts : DefP := ⟨825, "read_parts", "read_parts", s_read_parts, []⟩
def d_read_server : DefP := ⟨832, "read_server", "read_server", s_read_server, []⟩
def d_event_text : DefP := ⟨837, "event_text", "event_text", s_event_text, []⟩
def d_site_text : DefP := ⟨842, "site_text", "site_text", s_site_text, []⟩
def d_need_sort : DefP := ⟨849, "need_sort", "need_sort", s_need_sort, []⟩
def d_happen : DefP := ⟨854, "happen", "happen", s_happen, []⟩
def d_read_site : DefP := ⟨861, "read_site", "read_site", s_read_site, []⟩
def d_law_well : DefP := ⟨868, "_law_well", "_law_well", s_law_well, []⟩
def d_law_draw : DefP := ⟨875, "_law_draw", "_law_draw", s_law_draw, []⟩
def d_law_choose : DefP := ⟨882, "_law_choose", "_law_choose", s_law_choose, []⟩
def d_law_address : DefP := ⟨887, "_law_address", "_law_address", s_law_address, []⟩
def d_law_rule : DefP := ⟨894, "_law_rule", "_law_rule", s_law_rule, []⟩
def d_law_rules : DefP := ⟨901, "_law_rules", "_law_rules", s_law_rules, []⟩
def d_law_address_text : DefP := ⟨908, "_law_address_text", "_law_address_text", s_law_address_text, []⟩
def d_law_rule_text : DefP := ⟨915, "_law_rule_text", "_law_rule_text", s_law_rule_text, []⟩
def d_law_table_text : DefP := ⟨920, "_law_table_text", "_law_table_text", s_law_table_text, []⟩
def d_law_server_text : DefP := ⟨927, "_law_server_text", "_law_server_text", s_law_server_text, []⟩
def d_law_event_text : DefP := ⟨934, "_law_event_text", "_law_event_text", s_law_event_text, []⟩
def d_law_site_steps : DefP := ⟨939, "_law_site_steps", "_law_site_steps", s_law_site_steps, []⟩
def d_law_happen : DefP := ⟨946, "_law_happen", "_law_happen", s_law_happen, []⟩
def d_law_site : DefP := ⟨953, "_law_site", "_law_site", s_law_site, []⟩
def d_law_tables : DefP := ⟨960, "_law_tables", "_law_tables", s_law_tables, []⟩
def d_law_server : DefP := ⟨967, "_law_server", "_law_server", s_law_server, []⟩
def d_law : DefP := ⟨972, "law", "law", s_law, []⟩
def fn : List DefP := [d_is_word, d_is_address, d_is_number, d_is_day, d_address_key, d_is_place, d_is_redirect, d_is_rule_answer, d_is_rule, d_rule_key, d_Table_init, d_Table_eq, d_Table_rules, d_Server_init, d_Server_eq, d_Server_days, d_Server_set_table, d_Server_count_on, d_Server_table, d_Claim_init, d_Claim_as_tuple, d_Site_init, d_Site_eq, d_Site_names, d_Site_last, d_Site_need_day, d_Site_need_known, d_Site_need_standing, d_Site_need_free, d_Site_note] ++ ([d_Site_end_claim, d_Site_stand, d_Site_put, d_Site_put_page, d_Site_put_section, d_Site_need_place, d_Site_move, d_Site_bring, d_Site_merge, d_Site_take, d_Site_sort_of, d_Site_events, d_Site_claims, d_figure, d_address_text, d_read_address, d_place_text, d_read_place, d_answer_text, d_rule_text, d_read_answer, d_read_rule, d_table_text, d_read_table, d_server_text, d_read_parts, d_read_server, d_event_text, d_site_text, d_need_sort] ++ [d_happen, d_read_site, d_law_well, d_law_draw, d_law_choose, d_law_address, d_law_rule, d_law_rules, d_law_address_text, d_law_rule_text, d_law_table_text, d_law_server_text, d_law_event_text, d_law_site_steps, d_law_happen, d_law_site, d_law_tables, d_law_server, d_law])
def fa0 : List Fc := [.glo "is_word" 270, .glo "is_address" 275, .glo "is_number" 282, .glo "is_day" 289, .glo "address_key" 303, .glo "is_place" 321, .glo "is_redirect" 326, .glo "is_rule_answer" 331, .glo "is_rule" 338, .glo "rule_key" 345, .glo "figure" 751, .glo "address_text" 758, .glo "read_address" 765, .glo "place_text" 772, .glo "read_place" 779, .glo "answer_text" 784, .glo "rule_text" 791, .glo "read_answer" 796, .glo "read_rule" 803, .glo "table_text" 808, .glo "read_table" 813, .glo "server_text" 818, .glo "read_parts" 825, .glo "read_server" 832, .glo "event_text" 837, .glo "site_text" 842, .glo "need_sort" 849, .glo "happen" 854, .glo "read_site" 861, .glo "_law_well" 868]
def fa1 : List Fc := [.glo "_law_draw" 875, .glo "_law_choose" 882, .glo "_law_address" 887, .glo "_law_rule" 894, .glo "_law_rules" 901, .glo "_law_address_text" 908, .glo "_law_rule_text" 915, .glo "_law_table_text" 920, .glo "_law_server_text" 927, .glo "_law_event_text" 934, .glo "_law_site_steps" 939, .glo "_law_happen" 946, .glo "_law_site" 953, .glo "_law_tables" 960, .glo "_law_server" 967, .glo "law" 972, .glo "Table" 415, .glo "Server" 513, .glo "Claim" 541, .glo "Site" 742, .free "isinstance", .free "str", .free "tuple", .free "int", .free "len", .free "all", .free "sorted", .free "range", .free "list", .free "max"]
def fa2 : List Fc := [.free "min", .free "zip", .free "bool", .str "LETTERS" "abcdefghijklmnopqrstuvwxyz", .str "DIGITS" "0123456789", .str "PAGE" "page", .str "SECTION" "section", .int "MOST_LETTERS" 12, .int "LAST_DAY" 1000000, .int "MOST_RULES" 40, .int "MOST_WORDS" 4, .int "MOST_DAYS" 10000, .cls 415, .cls 513, .cls 541, .cls 742, .noat 415 "lines", .noat 513 "starts", .noat 513 "tables", .noat 541 "kind", .noat 541 "spot", .noat 541 "name", .noat 541 "made", .noat 541 "ended", .noat 742 "happened", .noat 742 "sorts", .noat 742 "spots", .noat 742 "others", .noat 742 "held", .meth 415 "__init__" 359]
def fa3 : List Fc := [.meth 415 "__eq__" 380, .meth 513 "__init__" 440, .meth 513 "__eq__" 447, .meth 513 "set_table" 462, .meth 513 "count_on" 467, .meth 513 "table" 474, .meth 541 "__init__" 531, .meth 541 "as_tuple" 538, .meth 742 "__init__" 559, .meth 742 "__eq__" 566, .meth 742 "need_day" 589, .meth 742 "need_known" 596, .meth 742 "need_standing" 603, .meth 742 "need_free" 610, .meth 742 "note" 617, .meth 742 "end_claim" 624, .meth 742 "stand" 631, .meth 742 "put" 638, .meth 742 "put_page" 645, .meth 742 "put_section" 652, .meth 742 "need_place" 659, .meth 742 "move" 666, .meth 742 "bring" 673, .meth 742 "merge" 680, .meth 742 "take" 687, .meth 742 "sort_of" 694, .meth 742 "events" 715, .meth 742 "claims" 720, .mkr 415 359, .mkr 513 440]
def fa4 : List Fc := [.mkr 541 531, .mkr 742 559, .prop 415 "rules" 388 387, .prop 513 "days" 455 454, .prop 742 "names" 574 573, .prop 742 "last" 582 581, .inst 415, .inst 513, .inst 742, .mt0 353]
def fa : List Fc := fa0 ++ (fa1 ++ (fa2 ++ (fa3 ++ (fa4))))
def ad0 : List Addr := [3, 415, 414, 513, 512, 541, 540, 742, 741, 388, 455, 574, 582, 270, 269, 275, 274, 282, 281, 289, 288, 303, 302, 321, 320, 326, 325, 331, 330, 338]
def ad1 : List Addr := [337, 345, 344, 359, 358, 380, 379, 387, 386, 440, 439, 447, 446, 454, 453, 462, 461, 467, 466, 474, 473, 531, 530, 538, 537, 559, 558, 566, 565, 573]
def ad2 : List Addr := [572, 581, 580, 589, 588, 596, 595, 603, 602, 610, 609, 617, 616, 624, 623, 631, 630, 638, 637, 645, 644, 652, 651, 659, 658, 666, 665, 673, 672, 680]
def ad3 : List Addr := [679, 687, 686, 694, 693, 715, 714, 720, 719, 751, 750, 758, 757, 765, 764, 772, 771, 779, 778, 784, 783, 791, 790, 796, 795, 803, 802, 808, 807, 813]
def ad4 : List Addr := [812, 818, 817, 825, 824, 832, 831, 837, 836, 842, 841, 849, 848, 854, 853, 861, 860, 868, 867, 875, 874, 882, 881, 887, 886, 894, 893, 901, 900, 908]
def ad5 : List Addr := [907, 915, 914, 920, 919, 927, 926, 934, 933, 939, 938, 946, 945, 953, 952, 960, 959, 967, 966, 972, 971, 353, 354]
def ads : List Addr := ad0 ++ (ad1 ++ (ad2 ++ (ad3 ++ (ad4 ++ (ad5)))))
abbrev R : PySem.W.OpenRow := PySem.W.OpenLaw.row PySem.Challenge.rw_leadsever_k88_whole_texts_of_servers_and
abbrev hk : PySem.W.Hook := hookP ads fa fn
def ob (s : PySem.W.SharedT) : AlP := obsPG ads fa fn (HandSHeadRun.getT s)
theorem ob_eq (s : PySem.W.SharedT) : ob s = hk.obs s.abs := obsPG_eq (HandSHeadRun.getT_eq s)
def nm0 : List PySem.Str := ["_wall", "LeadError", "BadRule", "BadTable", "BadDay", "BadPlace", "BadName", "UnknownName", "TakenName", "TakenPlace", "NotStanding", "Standing", "BadText", "LETTERS", "MOST_LETTERS", "LAST_DAY", "is_word", "is_address", "is_number", "is_day", "rest_of", "address_key", "in_order", "beginnings", "MOST_RULES", "MOST_WORDS", "MOST_DAYS", "NOTHING", "is_place", "is_redirect"]
def nm1 : List PySem.Str := ["is_rule_answer", "is_rule", "rule_key", "Table", "is_kept", "Server", "PAGE", "SECTION", "Claim", "Site", "DIGITS", "figure", "address_text", "read_address", "place_text", "read_place", "answer_text", "rule_text", "read_answer", "read_rule", "table_text", "read_table", "server_text", "read_parts", "read_server", "event_text", "site_text", "need_sort", "happen", "read_site"]
def nm2 : List PySem.Str := ["_law_well", "_law_draw", "_law_choose", "_law_address", "_law_rule", "_law_rules", "_law_address_text", "_law_rule_text", "_law_table_text", "_law_server_text", "_law_event_text", "_law_site_steps", "_law_happen", "_law_site", "_law_tables", "_law_server"]
def nms : List PySem.Str := nm0 ++ (nm1 ++ (nm2))
end K88
set_option maxHeartbeats 0
/-! The head's Hook: the facts, the defs, a lambda's table. -/
namespace K88
open PySem PySem.Spec PyProof.Rows L2
/-- the code object of the def at f is at c, its table (empty) at p, the table not told -/
def codB (f c : Addr) (K : PySem.W.Frag) : Bool := match K.lookup f with
  | some ⟨_, _, .func fd, _⟩ => (match fd.code with
    | .ref c' => c' == c
    | _ => false)
  | _ => false
def tabB (g : Addr → Option Obj) (f c p : Addr) (K : PySem.W.Frag) : Bool := codB f c K && (PySem.W.codeHdIn K c p && ((K.lookup p).isNone && (match g p with
  | some o => He.emptyTab o
  | none => false)))
structure SaysL (f c p : Addr) (h : Heap) (K : PySem.W.Frag) : Prop where
  lk : ∀ oc od fd osl, K.lookup f = some ⟨oc, od, .func fd, osl⟩ → fd.code = .ref c
  hd : PySem.W.codeHdIn K c p = true
  out : K.lookup p = none
  empty : h.get? p = some { cls := .none, data := .fields #[] }
theorem saysL_of {f c p : Addr} {h : Heap} {K : PySem.W.Frag} (e : tabB h.get? f c p K = true) : SaysL f c p h K := by
  obtain ⟨e1, e⟩ := He.ba e
  obtain ⟨e2, e⟩ := He.ba e
  obtain ⟨e3, e4⟩ := He.ba e
  refine ⟨fun oc od fd osl q => ?_, e2, Option.isNone_iff_eq_none.mp e3, ?_⟩
  · unfold codB at e1
    rw [q] at e1
    have e1 : (match fd.code with
      | .ref c' => c' == c
      | _ => false) = true := e1
    cases z : fd.code with
    | ref c' =>
      rw [z] at e1
      rw [beq_iff_eq.mp e1]
    | _ =>
      rw [z] at e1
      cases e1
  · cases q : h.get? p with
    | none => rw [q] at e4; cases e4
    | some o =>
      rw [q] at e4
      rw [He.emptyTab_eq e4]
abbrev AlQ : Type := AlP × Bool
def obsQ (as : List Addr) (fa : List Fc) (fn : List DefP) (f c p : Addr) (g : Addr → Option Obj) : AlQ := (obsPG as fa fn g, tabB g f c p (He.frG g as))
def hookQ (as : List Addr) (fa : List Fc) (fn : List DefP) (f c p : Addr) : PySem.W.Hook where
  α := AlQ
  obs := fun s => obsQ as fa fn f c p s.heap.get?
  val := fun _ => (valP fn, true)
  says := fun _ h => ∃ K : PySem.W.Frag, K.In h ∧ SaysP fa fn K ∧ SaysL f c p h K
  of := fun _ s e => ⟨_, He.frG_in, (Prod.mk.inj e).1, saysL_of (Prod.mk.inj e).2⟩
  keeps := fun _ _ _ ⟨K, hK, c, l⟩ k => ⟨K, PySem.W.Frag.In.keeps hK k, c, ⟨l.lk, l.hd, l.out, k _ _ l.empty⟩⟩
theorem obsQ_eq {as : List Addr} {fa : List Fc} {fn : List DefP} {f c p : Addr} {g : Addr → Option Obj} {s : Shared} (h : ∀ a, g a = s.heap.get? a) : obsQ as fa fn f c p g = (hookQ as fa fn f c p).obs s := by
  have e : g = s.heap.get? := funext h
  rw [e] <;> rfl
abbrev hq : PySem.W.Hook := hookQ ads fa fn 920 919 917
def obq (s : PySem.W.SharedT) : AlQ := obsQ ads fa fn 920 919 917 (HandSHeadRun.getT s)
theorem obq_eq (s : PySem.W.SharedT) : obq s = hq.obs s.abs := obsQ_eq (HandSHeadRun.getT_eq s)
end K88
set_option maxHeartbeats 0
namespace K88
open PySem PySem.Spec PyProof.Rows L2
theorem run (w : World) : HandSHeadRun.RunEq R (PySem.W.view R.prog [83]) hq obq 30000 nms w := by
  intro os
  kernel_rfl
end K88
set_option maxHeartbeats 4000000
/-! Calls by positional promises; defs by arity; Same's closure. -/
namespace K88
open PySem PySem.Spec PyProof.Rows L2
abbrev FN (P : Program) (w : World) (K : PySem.W.Frag) (mg : Str → Option Value) (base : Heap) (k : Nat) (f : Addr) (sp : Sp) : Prop := FnR P w K mg base CX0 k f sp
/-- promises by arity -/
def sp0 (p : Hp → VK → Prop) : Sp := fun vs H Q _ => vs = [] ∧ p H Q
def sp1 (p : V → Hp → VK → Prop) : Sp := fun vs H Q _ => ∃ a, vs = [a] ∧ p a H Q
def sp2 (p : V → V → Hp → VK → Prop) : Sp := fun vs H Q _ => ∃ a b, vs = [a, b] ∧ p a b H Q
def sp3 (p : V → V → V → Hp → VK → Prop) : Sp := fun vs H Q _ => ∃ a b c, vs = [a, b, c] ∧ p a b c H Q
def sp4 (p : V → V → V → V → Hp → VK → Prop) : Sp := fun vs H Q _ => ∃ a b c d, vs = [a, b, c, d] ∧ p a b c d H Q
def sp5 (p : V → V → V → V → V → Hp → VK → Prop) : Sp := fun vs H Q _ => ∃ a b c d e, vs = [a, b, c, d, e] ∧ p a b c d e H Q
section
variable {P : Program} {w : World} {K : PySem.W.Frag} {mg : Str → Option Value} {base : Heap} {x qual : Str} {params : Arguments} {body : List Stmt} {scope : Scope} {f : Addr} {fd : FuncData} {N ps : List Str} {k : Nat} {sp : Sp}
theorem fn_any (F : FunD K x qual params body scope [] [] f fd) (S : FnScope N ps scope) (len : ∀ vs H Q E, sp vs H Q E → vs.length = ps.length)
    (hb : ∀ (kV doc pm : Value) (an : Option Addr) (cdv ct : Value) (us : List Value), us.length = ps.length → bindArgs (PySem.W.fnOf x qual params body scope .none kV doc pm an cdv ct) ⟨us, []⟩ = pure (ps.zip us))
    (hbody : ∀ (cdv : Value) (A : Around) (outer : List Env) (s : Shared) (H : Hp) (vs : List V) (Q : VK) (E : XK), Room k (A.deeper (envOfC qual scope s.heap.objs.size f cdv)) → sp vs H Q E →
      ∃ t, PSs (cxOf CX0 P w K mg base N qual scope f cdv A outer s H E).nox body t ∧ t { nx := fun _ H' => Q .non H', rt := Q } (start N vs) H) : FN P w K mg base (k + 1) f sp := by
  have G : FnOk P w K mg base CX0 (k + 1) f fd ps sp := F.ok S len fun cdv A outer s H vs Q E hr h => by
    obtain ⟨t, ht, q⟩ := hbody cdv A outer s H vs Q E hr h
    exact ⟨t, ht.nox, q⟩
  exact (G.raw (F.bindsN hb) .nil).imp fun vs H Q E h => by rw [List.append_nil]; exact h
theorem len0 {p : Hp → VK → Prop} (hl : ps.length = 0) (vs : List V) (H : Hp) (Q : VK) (E : XK) (h : sp0 p vs H Q E) : vs.length = ps.length := by
  obtain ⟨rfl, _⟩ := h
  exact hl.symm
theorem len1 {p : V → Hp → VK → Prop} (hl : ps.length = 1) (vs : List V) (H : Hp) (Q : VK) (E : XK) (h : sp1 p vs H Q E) : vs.length = ps.length := by
  obtain ⟨_, rfl, _⟩ := h
  exact hl.symm
theorem len2 {p : V → V → Hp → VK → Prop} (hl : ps.length = 2) (vs : List V) (H : Hp) (Q : VK) (E : XK) (h : sp2 p vs H Q E) : vs.length = ps.length := by
  obtain ⟨_, _, rfl, _⟩ := h
  exact hl.symm
theorem len3 {p : V → V → V → Hp → VK → Prop} (hl : ps.length = 3) (vs : List V) (H : Hp) (Q : VK) (E : XK) (h : sp3 p vs H Q E) : vs.length = ps.length := by
  obtain ⟨_, _, _, rfl, _⟩ := h
  exact hl.symm
theorem len4 {p : V → V → V → V → Hp → VK → Prop} (hl : ps.length = 4) (vs : List V) (H : Hp) (Q : VK) (E : XK) (h : sp4 p vs H Q E) : vs.length = ps.length := by
  obtain ⟨_, _, _, _, rfl, _⟩ := h
  exact hl.symm
theorem len5 {p : V → V → V → V → V → Hp → VK → Prop} (hl : ps.length = 5) (vs : List V) (H : Hp) (Q : VK) (E : XK) (h : sp5 p vs H Q E) : vs.length = ps.length := by
  obtain ⟨_, _, _, _, _, rfl, _⟩ := h
  exact hl.symm
end
/-! ### calls -/
def tCallR (sp : Sp) (t : TA) : TE := fun σ H Q => t σ H fun vs H1 => sp vs H1 Q E0
def tMethN (C : Addr) (m : Str) (sp : Sp) (ta : TE) (t : TA) : TE := fun σ H Q => ta σ H fun x H1 => ∃ a dx fs, x = .ref a ∧ H1 a = some (.ins C dx fs) ∧ fs.lookup m = none ∧ t σ H1 fun vs H2 => sp (x :: vs) H2 Q E0
def tMakeN (C : Addr) (sp : Sp) (t : TA) : TE := fun σ H Q => t σ H fun vs H1 => ∀ x dx, H1 x = none → H1 dx = none → dx ≠ x → sp (.ref x :: vs) (upd (upd H1 dx (.own x)) x (.ins C dx [])) (fun v H2 => v = .non ∧ Q (.ref x) H2) E0
def tPropN (C : Addr) (sp : Sp) (ta : TE) : TE := fun σ H Q => ta σ H fun x H1 => ∃ a dx fs, x = .ref a ∧ H1 a = some (.ins C dx fs) ∧ sp [.ref a] H1 Q E0
section
variable {X : Cx} {k : Nat} {f C g p : Addr} {sp : Sp} {x m : Str} {pn pos apos : Pos} {e o : Expr} {es : List Expr} {ta : TE} {t : TA}
theorem run_R {pins : List (Addr × Obj)} {σ : L2.St} {H : Hp} {s : Shared} {Q : VK} {us : List Value} {vs : List V} (F : FnR X.prog X.w X.K X.mg X.base CX0 k f sp) (hr : Room k X.A) (I : Inv X pins σ H s) (r : Vals vs us) (h : sp vs H Q E0) :
    wpAny (model X.prog X.w) X.A (call (.ref f) us) (EP X pins σ Q) X.xe s := wpAny_call (run_fnR F hr pass0 I r h)
/-- f(e, ..), f a def of the module -/
theorem pe_g (F : FnR X.prog X.w X.K X.mg X.base CX0 k f sp) (hr : Room k X.A) (hg : Gl X x) (hm : X.mg x = some (.ref f)) (hk : PySem.W.keepIn X.K (.ref f) = true) (ha : PA X (e :: es) t) (hdb : (x == ("__debug__" : Str)) = false := by decide)
    (he : starEach (e :: es) X.env = (false, eval e X.env) :: starEach es X.env := by rfl) (hpl : (backTo pos (starEach es X.env)).any (·.1) = false := by rfl) : PE X (.Call (.Name x pn) (e :: es) [] pos) (tCallR sp t) := by
  refine ⟨fun pins s σ H Q I h => ?_⟩
  refine wpAny_Call_Name_kw (ld_glob I hg hm ?_ hdb)
  refine PySem.W.callWith_K (h₀ := X.base) I.ok.mod.kin hk (thn (ha.run pos pins s σ H _ I h) fun us s1 z => ?_) he hpl
  obtain ⟨vs, H1, I1, r, q⟩ := z
  exact ⟨I1.kIn, run_R F hr I1 r q⟩
/-- o.m(e, ..) -/
theorem pe_m {pl : Sem Bool} (he : PE X o ta) (c : Cls X.K C) (hm : Meth X.K C m g) (F : FnR X.prog X.w X.K X.mg X.base CX0 k g sp) (hr : Room k X.A) (ha : PA X (e :: es) t)
    (hst : starEach (e :: es) X.env = (false, eval e X.env) :: starEach es X.env := by rfl) (hpl : (backTo pos (starEach es X.env)).any (·.1) = false := by rfl)
    (ht : eval (.Call (.Attribute o m apos) (e :: es) [] pos) X.env = (do
      let ov ← eval o X.env
      standAt apos.atName
      let (f, first) ← holding [ov] (getMethod ov m pl)
      callWith pos f first (backTo pos (starEach (e :: es) X.env)) (backToKw pos (keywordEach [] X.env))) := by rfl) :
    PE X (.Call (.Attribute o m apos) (e :: es) [] pos) (tMethN C m sp ta t) := pe_methR he c hm F hr pass0 ha hst hpl ht
/-- o.m() -/
theorem pe_m0 {pl : Sem Bool} (he : PE X o ta) (c : Cls X.K C) (hm : Meth X.K C m g) (F : FnR X.prog X.w X.K X.mg X.base CX0 k g sp) (hr : Room k X.A)
    (ht : eval (.Call (.Attribute o m apos) [] [] pos) X.env = (do
      let ov ← eval o X.env
      standAt apos.atName
      let (f, first) ← holding [ov] (getMethod ov m pl)
      callWith pos f first (backTo pos (starEach [] X.env)) (backToKw pos (keywordEach [] X.env))) := by rfl) :
    PE X (.Call (.Attribute o m apos) [] [] pos) (tMethN C m sp ta tNil) := by
  refine ⟨fun pins s σ H Q I h => ?_⟩
  refine PySem.W.methodCall_KW (pl := pl) (thn (he.run pins s σ H _ I h) fun u s1 z => ?_) ht
  obtain ⟨x, H1, I1, rx, a, dx, fs, ex, ea, l, q⟩ := z
  subst ex
  cases rx
  refine getmeth_ok I1 ea c hm l ?_
  exact PySem.W.callWith_K0 (first := [.ref a]) I1.kIn hm.kp (run_R (us := [.ref a]) (vs := [.ref a]) F hr I1 (.cons rfl .nil) q)
/-- C(e, ..) -/
theorem pe_mk (M : Mk X.K C f) (F : FnR X.prog X.w X.K X.mg X.base CX0 k f sp) (hr : Room (k + 1) X.A) (hg : Gl X x) (hm : X.mg x = some (.ref C)) (ha : PA X (e :: es) t) (hdb : (x == ("__debug__" : Str)) = false := by decide)
    (he : starEach (e :: es) X.env = (false, eval e X.env) :: starEach es X.env := by rfl) (hpl : (backTo pos (starEach es X.env)).any (·.1) = false := by rfl) : PE X (.Call (.Name x pn) (e :: es) [] pos) (tMakeN C sp t) :=
  StX.pe_makeR M F hr hg hm pass0 ha hdb he hpl
/-- C() -/
theorem pe_mk0 (M : Mk X.K C f) (F : FnR X.prog X.w X.K X.mg X.base CX0 k f sp) (hr : Room (k + 1) X.A) (hg : Gl X x) (hm : X.mg x = some (.ref C)) (hdb : (x == ("__debug__" : Str)) = false := by decide) :
    PE X (.Call (.Name x pn) [] [] pos) (tMakeN C sp tNil) := by
  refine ⟨fun pins s σ H Q I h => ?_⟩
  refine wpAny_Call_Name_kw (ld_glob I hg hm ?_ hdb)
  exact PySem.W.callWith_K0 I.kIn M.kp (StX.run_makeR (us := []) M F hr pass0 I .nil h)
end
/-! ### heaps -/
theorem _root_.L2.Same.nw {H H' : Hp} {p : Addr} {o : HO} (s : Same H H') (h : H' p = none) : Same H (upd H' p o) := fun b u e => by
  rw [upd_ne (ne_of_none (s b u e) h)]
  exact s b u e
/-- an object that H does not know is changed -/
theorem _root_.L2.Same.mt {H H' : Hp} {p : Addr} {o : HO} (s : Same H H') (h : H p = none) : Same H (upd H' p o) := fun b u e => by
  rw [upd_ne (ne_of_none e h)]
  exact s b u e
theorem _root_.L2.Same.sqt {K : PySem.W.Frag} {H H' : Hp} {a : Addr} {xs : List V} (e : Same H H') (h : SqT K H a xs) : SqT K H' a xs := SqT.ext h e
mutual
theorem dp_mono {K : PySem.W.Frag} {H H' : Hp} (e : Same H H') : ∀ {v : V} {d : PyData}, Dp K H v d → Dp K H' v d
  | _, _, .non => .non
  | _, _, .bl b => .bl b
  | _, _, .int i => .int i
  | _, _, .str x => .str x
  | _, _, .lst h a => .lst (e.seq h) (dpa_mono e a)
  | _, _, .tup h a => .tup (e.sqt h) (dpa_mono e a)
theorem dpa_mono {K : PySem.W.Frag} {H H' : Hp} (e : Same H H') : ∀ {vs : List V} {ds : List PyData}, DpAll K H vs ds → DpAll K H' vs ds
  | _, _, .nil => .nil
  | _, _, .cons h a => .cons (dp_mono e h) (dpa_mono e a)
end
end K88
set_option maxHeartbeats 4000000
/-! match statements. -/
namespace K88
open PySem PySem.Spec PyProof.Rows L2
abbrev TPt := V → L2.St → Hp → (Option (List V) → Hp → Prop) → Prop
def RB (ns : List Str) (r : Option (List V)) (r' : Option (List (Str × Value))) : Prop := match r, r' with
  | none, none => True
  | some vs, some bs => bs.map (·.1) = ns ∧ Vals vs (bs.map (·.2))
  | _, _ => False
/-- a pattern that binds the names ns -/
structure PM (X : Cx) (p : Pattern) (ns : List Str) (t : TPt) : Prop where
  run : ∀ (pins : List (Addr × Obj)) (s : Shared) (σ : L2.St) (H : Hp) (x : V) (v : Value) (Q : Option (List V) → Hp → Prop), Inv X pins σ H s → RelV x v → t x σ H Q →
    wpAny (model X.prog X.w) X.A (matchPattern p X.env v) (fun r' s' => ∃ r H', Inv X pins σ H' s' ∧ RB ns r r' ∧ Q r H') X.xe s
abbrev TPts := List V → L2.St → Hp → (Option (List V) → Hp → Prop) → Prop
structure PMs (X : Cx) (ps : List Pattern) (ns : List Str) (t : TPts) : Prop where
  run : ∀ (pins : List (Addr × Obj)) (s : Shared) (σ : L2.St) (H : Hp) (xs : List V) (vs : List Value) (Q : Option (List V) → Hp → Prop), Inv X pins σ H s → Vals xs vs → t xs σ H Q →
    wpAny (model X.prog X.w) X.A (matchEach ps X.env vs) (fun r' s' => ∃ r H', Inv X pins σ H' s' ∧ RB ns r r' ∧ Q r H') X.xe s
section
variable {X : Cx} {p : Pattern} {ps : List Pattern} {ns ms : List Str} {pos : Pos}
def tPCap : TPt := fun x _ H Q => Q (some [x]) H
def tPAny : TPt := fun _ _ H Q => Q (some []) H
theorem pm_cap {n : Str} : PM X (.MatchAs none (some n) pos) [n] tPCap := by
  refine ⟨fun pins s σ H x v Q I r h => ?_⟩
  exact wpAny_matchPattern_Capture ⟨some [x], H, I, ⟨rfl, .cons r .nil⟩, h⟩
theorem pm_any : PM X (.MatchAs none none pos) [] tPAny := by
  refine ⟨fun pins s σ H x v Q I r h => ?_⟩
  exact wpAny_matchPattern_Capture ⟨some [], H, I, ⟨rfl, .nil⟩, h⟩
/-- a value: == by the operation's rule -/
def tPVal (r : R2) (te : TE) : TPt := fun x σ H Q => te σ H fun y H1 => r x y H1 fun z H2 => ∃ k, z = .bl k ∧ Q (if k = true then some [] else none) H2
theorem pm_val {r : R2} {e : Expr} {te : TE} (ho : OpR X (compareOp .Eq) r) (he : PE X e te) : PM X (.MatchValue e pos) [] (tPVal r te) := by
  refine ⟨fun pins s σ H x v Q I rx h => ?_⟩
  refine wpAny_matchPattern_Value (thn (he.run pins s σ H _ I h) fun u s1 z => ?_)
  obtain ⟨y, H1, I1, ry, q⟩ := z
  refine thn (ho pins s1 σ H1 x y v u _ I1 rx ry q) fun c s2 z => ?_
  obtain ⟨z, H2, I2, rz, k, ez, q⟩ := z
  subst ez
  cases rz
  refine wpAny_truthy_bool ?_
  cases k with
  | true => exact ⟨some [], H2, I2, ⟨rfl, .nil⟩, q⟩
  | false => exact ⟨none, H2, I2, trivial, q⟩
def tPNil : TPts := fun _ _ H Q => Q (some []) H
def tPCons (tp : TPt) (tr : TPts) : TPts := fun xs σ H Q => ∃ x r, xs = x :: r ∧ tp x σ H fun a H1 => match a with
  | none => Q none H1
  | some vs => tr r σ H1 fun b H2 => match b with
    | none => Q none H2
    | some ws => Q (some (vs ++ ws)) H2
theorem pms_nil : PMs X [] [] tPNil := by
  refine ⟨fun pins s σ H xs vs Q I r h => ?_⟩
  exact wpAny_matchEach_nil ⟨some [], H, I, ⟨rfl, .nil⟩, h⟩
theorem pms_cons {tp : TPt} {tr : TPts} (h1 : PM X p ns tp) (h2 : PMs X ps ms tr) (hp : p.isStar = false := by rfl) : PMs X (p :: ps) (ns ++ ms) (tPCons tp tr) := by
  refine ⟨fun pins s σ H xs vs Q I r h => ?_⟩
  obtain ⟨x, rs, rfl, h⟩ := h
  cases r with
  | cons r rr =>
    refine wpAny_matchEach_cons (thn (h1.run pins s σ H x _ _ I r h) fun a' s1 z => ?_) hp
    obtain ⟨a, H1, I1, rb, q⟩ := z
    cases a' with
    | none =>
      cases a with
      | none => exact ⟨none, H1, I1, trivial, q⟩
      | some _ => exact rb.elim
    | some bs =>
      cases a with
      | none => exact rb.elim
      | some as =>
        obtain ⟨e1, r1⟩ := rb
        refine thn (h2.run pins s1 σ H1 rs _ _ I1 rr q) fun b' s2 z => ?_
        obtain ⟨b, H2, I2, rb2, q2⟩ := z
        cases b' with
        | none =>
          cases b with
          | none => exact ⟨none, H2, I2, trivial, q2⟩
          | some _ => exact rb2.elim
        | some cs =>
          cases b with
          | none => exact rb2.elim
          | some ds =>
            obtain ⟨e2, r2⟩ := rb2
            refine ⟨some (as ++ ds), H2, I2, ⟨?_, ?_⟩, q2⟩
            · rw [List.map_append, e1, e2]
            · rw [List.map_append]
              exact r1.append r2
/-- [p, q, ..] of a tuple or a list -/
def tPSeq (K : PySem.W.Frag) (n : Nat) (tr : TPts) : TPt := fun x σ H Q => ∃ a xs, x = .ref a ∧ (SqT K H a xs ∨ SqL K H a xs) ∧ (xs.length ≠ n → Q none H) ∧ (xs.length = n → tr xs σ H Q)
theorem pm_seq {tr : TPts} (hc : X.calm = true) (h : PMs X ps ns tr) (hstar : ps.findIdx? (·.isStar) = none := by rfl) (hwild : (ps.all fun p => p.isWildcard || (p.isStar && p.names.isEmpty)) = false := by rfl) :
    PM X (.MatchSequence ps pos) ns (tPSeq X.K ps.length tr) := by
  refine ⟨fun pins s σ H x v Q I r hw => ?_⟩
  obtain ⟨a, xs, rfl, hs, h0, h1⟩ := hw
  cases r
  rcases hs with hs | hs
  · obtain ⟨its, rv, ht, hz⟩ := I.tuple hs
    have hl := rv.length
    have hfit : ((its.toArray.size : Nat) : Int) < 2 ^ 63 := by
      have h3 := line63
      have e : its.toArray.size = its.length := by simp
      omega
    by_cases hn : xs.length = ps.length
    · have e : its.toArray.size = ps.length := by simp; omega
      refine matchSeq_tuple_hit ht hfit e ?_ hstar hwild
      rw [← e]
      refine unpackItems_tuple (I.ok.hd hc) ht fun h' hx => ?_
      have I1 : Inv X pins σ H { s with heap := h', toks := s.toks + 1 + 1 } := I.kept (t' := s.toks + 1 + 1) fun b o q => hx b o (Nat.ne_of_lt (Heap.lt_size q)) q
      have rv' : Vals xs its.toArray.toList := by simpa using rv
      exact h.run pins _ σ H xs _ Q I1 rv' (h1 hn)
    · have e : its.toArray.size ≠ ps.length := by simp; omega
      exact matchSeq_tuple_miss ht hfit e ⟨none, H, I.tok _, trivial, h0 hn⟩ hstar hwild
  · obtain ⟨its, rv, pl, hz⟩ := I.list hs
    have hl := rv.length
    have hfit : ((its.toArray.size : Nat) : Int) < 2 ^ 63 := by
      have h3 := line63
      have e : its.toArray.size = its.length := by simp
      omega
    by_cases hn : xs.length = ps.length
    · have e : its.toArray.size = ps.length := by simp; omega
      refine matchSeq_list_hit pl.isList hfit e ?_ hstar hwild
      rw [← e]
      refine PySem.W.kun_itemsOf (I.ok.hd hc) pl.isList fun h' hx => ?_
      have I1 : Inv X pins σ H { s with heap := h', toks := s.toks + 1 + 1 } := I.kept (t' := s.toks + 1 + 1) fun b o q => hx b o (Nat.ne_of_lt (Heap.lt_size q)) q
      have rv' : Vals xs its.toArray.toList := by simpa using rv
      exact h.run pins _ σ H xs _ Q I1 rv' (h1 hn)
    · have e : its.toArray.size ≠ ps.length := by simp; omega
      exact matchSeq_list_miss pl.isList hfit e ⟨none, H, I.tok _, trivial, h0 hn⟩ hstar hwild
/-! ### storing what a pattern binds -/
def setAll : L2.St → List Nat → List V → L2.St
  | σ, i :: is, v :: vs => setAll (σ.set i (some v)) is vs
  | σ, _, _ => σ
def SlOk (X : Cx) : List Str → List Nat → Prop
  | [], [] => True
  | n :: ns, i :: is => X.N[i]? = some n ∧ Loc X.env.scope n ∧ (X.fn n = true ∨ X.env.scope.names.lookup n = some .local) ∧ SlOk X ns is
  | _, _ => False
theorem store_all (hN : X.N.Nodup) : ∀ (bs : List (Str × Value)) (is : List Nat) (vs : List V) {pins : List (Addr × Obj)} {σ : L2.St} {H : Hp} {s : Shared} {Q : Unit → Shared → Prop}, SlOk X (bs.map (·.1)) is → Vals vs (bs.map (·.2)) → Inv X pins σ H s →
    (∀ s', Inv X pins (setAll σ is vs) H s' → Q () s') → wpAny (model X.prog X.w) X.A (assignInOrder (bs.map fun q => bindName X.env q.1) (bs.map (·.2))) Q X.xe s
  | [], [], vs, _, _, _, _, _, _, r, I, h => by
    cases r
    exact wpAny_assignInOrder_none (h _ I)
  | [], _ :: _, _, _, _, _, _, _, hs, _, _, _ => hs.elim
  | b :: bs, [], _, _, _, _, _, _, hs, _, _, _ => hs.elim
  | b :: bs, i :: is, vs, _, _, _, _, _, hs, r, I, h => by
    obtain ⟨h1, h2, h3, h4⟩ := hs
    cases r with
    | cons r rr =>
      refine wpAny_assignInOrder_more (wpAny_bindName (store_ok I hN h1 h2 r (fun s' I' => ?_) h3))
      exact store_all hN bs is _ h4 rr I' h
/-! ### the cases -/
abbrev TCs := V → L2.TS
structure PCs (X : Cx) (cs : List MatchCase) (t : TCs) : Prop where
  run : ∀ (pins : List (Addr × Obj)) (s : Shared) (σ : L2.St) (H : Hp) (x : V) (v : Value) (D : Ends) (b : Bool), Inv X pins σ H s → RelV x v → t x D σ H → wpAny (model X.prog X.w) X.A (matchCases cs X.env v b) (SP X pins D) X.xe s
def tCNil : TCs := fun _ D σ H => D.nx σ H
def tCNever : TCs := fun _ _ _ _ => False
def tCCons (tp : TPt) (is : List Nat) (tb : L2.TS) (tr : TCs) : TCs := fun x D σ H => tp x σ H fun r H1 => match r with
  | none => tr x D σ H1
  | some vs => tb D (setAll σ is vs) H1
theorem pcs_nil : PCs X [] tCNil := ⟨fun _ _ σ H _ _ _ _ I _ h => wpAny_matchCases_nil ⟨σ, H, I, h⟩⟩
theorem pcs_never {cs : List MatchCase} : PCs X cs tCNever := ⟨fun _ _ _ _ _ _ _ _ _ _ h => h.elim⟩
theorem pcs_cons {tp : TPt} {is : List Nat} {tb : L2.TS} {tr : TCs} {body : List Stmt} {cs : List MatchCase} (hN : X.N.Nodup) (hp : PM X p ns tp) (hs : SlOk X ns is) (hb : PSs X body tb) (hr : PCs X cs tr) : PCs X (⟨p, none, body⟩ :: cs) (tCCons tp is tb tr) := by
  refine ⟨fun pins s σ H x v D b I r h => ?_⟩
  refine wpAny_matchCases_cons (thn (hp.run pins s σ H x v _ I r h) fun a' s1 z => ?_)
  obtain ⟨a, H1, I1, rb, q⟩ := z
  cases a' with
  | none =>
    cases a with
    | none => exact hr.run pins s1 σ H1 x v D false I1 r q
    | some _ => exact rb.elim
  | some bs =>
    cases a with
    | none => exact rb.elim
    | some vs =>
      obtain ⟨e1, r1⟩ := rb
      exact store_all hN bs is vs (by rw [e1]; exact hs) r1 I1 fun s2 I2 => hb.run pins s2 _ H1 D I2 q
def tMatch (te : TE) (tc : TCs) : L2.TS := fun D σ H => te σ H fun x H1 => tc x D σ H1
theorem ps_match {e : Expr} {te : TE} {cs : List MatchCase} {tc : TCs} (he : PE X e te) (hc : PCs X cs tc) : PS X (.Match e cs pos) (tMatch te tc) := by
  refine ⟨fun pins s σ H D I h => ?_⟩
  refine wpAny_Match (thn (he.run pins s σ H _ I h) fun v s1 z => ?_)
  obtain ⟨x, H1, I1, rx, q⟩ := z
  exact hc.run pins s1 σ H1 x v D true I1 rx q
/-! ### readings of patterns that change nothing -/
def PNo (tp : TPt) (x : V) (σ : L2.St) (H : Hp) : Prop := ∀ Q : Option (List V) → Hp → Prop, Q none H → tp x σ H Q
def PYes (tp : TPt) (x : V) (σ : L2.St) (H : Hp) (vs : List V) : Prop := ∀ Q : Option (List V) → Hp → Prop, Q (some vs) H → tp x σ H Q
def PsNo (tp : TPts) (xs : List V) (σ : L2.St) (H : Hp) : Prop := ∀ Q : Option (List V) → Hp → Prop, Q none H → tp xs σ H Q
def PsYes (tp : TPts) (xs : List V) (σ : L2.St) (H : Hp) (vs : List V) : Prop := ∀ Q : Option (List V) → Hp → Prop, Q (some vs) H → tp xs σ H Q
section
variable {tp : TPt} {tps : TPts} {is : List Nat} {tb : L2.TS} {tr : TCs} {x : V} {xs : List V} {D : Ends} {σ : L2.St} {H : Hp} {vs ws : List V} {K : PySem.W.Frag} {n : Nat} {a : Addr}
theorem case_no (h : PNo tp x σ H) (k : tr x D σ H) : tCCons tp is tb tr x D σ H := h _ k
theorem case_yes (h : PYes tp x σ H vs) (k : tb D (setAll σ is vs) H) : tCCons tp is tb tr x D σ H := h _ k
theorem cap_yes : PYes tPCap x σ H [x] := fun _ q => q
theorem any_yes : PYes tPAny x σ H [] := fun _ q => q
theorem val_yes {y : V} (hs : scal x y = true) (e : x = y) : PYes (tPVal rEq (tC y)) x σ H [] := fun Q q => ⟨hs, true, by rw [decide_eq_true e], q⟩
theorem val_no {y : V} (hs : scal x y = true) (e : x ≠ y) : PNo (tPVal rEq (tC y)) x σ H := fun Q q => ⟨hs, false, by rw [decide_eq_false e], q⟩
theorem pnil : PsYes tPNil [] σ H [] := fun _ q => q
theorem pcons_yes (h : PYes tp x σ H vs) (k : PsYes tps xs σ H ws) : PsYes (tPCons tp tps) (x :: xs) σ H (vs ++ ws) := fun Q q => ⟨x, xs, rfl, h _ (k _ q)⟩
theorem pcons_no1 (h : PNo tp x σ H) : PsNo (tPCons tp tps) (x :: xs) σ H := fun Q q => ⟨x, xs, rfl, h _ q⟩
theorem pcons_no2 (h : PYes tp x σ H vs) (k : PsNo tps xs σ H) : PsNo (tPCons tp tps) (x :: xs) σ H := fun Q q => ⟨x, xs, rfl, h _ (k _ q)⟩
theorem seq_len (h : SqT K H a xs ∨ SqL K H a xs) (hn : xs.length ≠ n) : PNo (tPSeq K n tps) (.ref a) σ H := fun Q q => ⟨a, xs, rfl, h, fun _ => q, fun e => absurd e hn⟩
theorem seq_no (h : SqT K H a xs ∨ SqL K H a xs) (hn : xs.length = n) (k : PsNo tps xs σ H) : PNo (tPSeq K n tps) (.ref a) σ H := fun Q q => ⟨a, xs, rfl, h, fun e => absurd hn e, fun _ => k _ q⟩
theorem seq_yes (h : SqT K H a xs ∨ SqL K H a xs) (hn : xs.length = n) (k : PsYes tps xs σ H vs) : PYes (tPSeq K n tps) (.ref a) σ H vs := fun Q q => ⟨a, xs, rfl, h, fun e => absurd hn e, fun _ => k _ q⟩
end
end
end K88
set_option maxHeartbeats 4000000
/-! Comprehensions whose element only makes things; a property's read; tests. -/
namespace K88
open PySem PySem.Spec PyProof.Rows L2
/-- all but the lists is kept -/
def KeepN (H H' : Hp) : Prop := ∀ b o, H b = some o → (∀ xs, o ≠ .lst xs) → H' b = some o
theorem _root_.L2.Same.keepN {H H' : Hp} (s : Same H H') : KeepN H H' := fun b o e _ => s b o e
theorem KeepN.trans {H H1 H2 : Hp} (a : KeepN H H1) (b : KeepN H1 H2) : KeepN H H2 := fun c o e n => b c o (a c o e n) n
theorem KeepN.refl (H : Hp) : KeepN H H := fun _ _ e _ => e
theorem keepN_lst {H : Hp} {p : Addr} {xs ys : List V} (h : H p = some (.lst xs)) : KeepN H (upd H p (.lst ys)) := fun b o e n => by
  rw [upd_ne (ne_of e h (n xs))]
  exact e
theorem keepN_new {H : Hp} {p : Addr} {o : HO} (h : H p = none) : KeepN H (upd H p o) := ((Same.refl H).nw h).keepN
/-- stable under all but lists -/
def Stab (P : Hp → Prop) : Prop := ∀ H H', KeepN H H' → P H → P H'
theorem sqt_keepN {K : PySem.W.Frag} {H H' : Hp} {a : Addr} {xs : List V} (e : KeepN H H') (h : SqT K H a xs) : SqT K H' a xs := by
  rcases h with (h | ⟨o, h⟩) | h
  · exact .inl (.inl (e _ _ h (fun _ z => nomatch z)))
  · exact .inl (.inr ⟨o, e _ _ h (fun _ z => nomatch z)⟩)
  · exact .inr h
/-- a comprehension whose element, at each turn, makes things and gives what P says -/
theorem lc_pure {J : It} {n : Nat} {G : Hp → Prop} {Y : Nat → Hp → V → Hp → Prop} (w : Walk J n G Y) {g : TG} {tt : TT} {te : TE} {vs : List Nat} {σ : L2.St} {H1 : Hp} {D : Addr} {Qd : Hp → Prop} (hD : H1 D = none) (hn : n ≤ 100000)
    (P : Nat → V → Hp → Prop) (hP : ∀ i v, Stab (P i v)) (hG : ∀ H, Same H1 H → G H)
    (hs : ∀ i x H H' (Q : VK) (R : Hp → Prop), i < n → Same H1 H → Y i H x H' → (∀ y H4, Same H H4 → P i y H4 → Q y H4) → g x (wipe σ vs) H' fun σ2 H2 => wipe σ2 vs = wipe σ vs ∧ tt σ2 H2 fun b H3 => if b = true then te σ2 H3 Q else R H3)
    (hd : ∀ ys H', ys.length = n → (∀ i y, ys[i]? = some y → P i y H') → Same H1 H' → H' D = some (.lst ys) → Qd H') :
    ∃ W : Nat → Nat → Hp → Prop, (∃ m, W 0 m (upd H1 D (.lst []))) ∧ ∀ i m H, W i m H →
      (J.stop i H ∧ Qd H) ∨ (J.go i H ∧ ∃ Nx : Hp → Prop, (∀ H', Nx H' → ∃ m', m' < m ∧ W (i + 1) m' H') ∧ ∀ x H', J.yld i H x H' → g x (wipe σ vs) H' fun σ2 H2 => wipe σ2 vs = wipe σ vs ∧ tt σ2 H2 fun b H3 =>
        if b = true then te σ2 H3 fun y H4 => ∃ acc, H4 D = some (.lst acc) ∧ acc.length < sizeLine ∧ Nx (upd H4 D (.lst (acc ++ [y]))) else Nx H3) := by
  refine lc_it w (fun i H => ∃ acc : List V, acc.length = i ∧ H D = some (.lst acc) ∧ Same H1 H ∧ ∀ j y, acc[j]? = some y → P j y H) ⟨[], rfl, upd_same, (Same.refl H1).nw hD, fun j y z => by simp at z⟩ (fun i H _ ⟨_, _, _, s, _⟩ => hG H s) ?_ ?_
  · rintro i x H H' hi ⟨acc, hl, hDl, s, hp⟩ y
    refine hs i x H H' _ _ hi s y fun y H4 s4 p4 => ?_
    · have e4 : H4 D = some (.lst acc) := s4 _ _ hDl
      refine ⟨acc, e4, Nat.lt_of_lt_of_le (by omega) (show 100001 ≤ sizeLine by decide), acc ++ [y], by simp [hl], upd_same, (s.trans s4).mt hD, fun j z hz => ?_⟩
      have k4 : KeepN H (upd H4 D (.lst (acc ++ [y]))) := s4.keepN.trans (keepN_lst e4)
      by_cases hj : j < acc.length
      · rw [List.getElem?_append_left hj] at hz
        exact hP j z _ _ k4 (hp j z hz)
      · have hj2 : j = acc.length := by
          have := (List.getElem?_eq_some_iff.mp hz).1
          simp at this
          omega
        subst hj2
        simp at hz
        subst hz
        rw [hl]
        exact hP i y _ _ (keepN_lst e4) p4
  · rintro H ⟨acc, hl, hDl, s, hp⟩
    exact hd acc H hl hp s hDl
/-- .. its target a name, no test -/
theorem tLc_name {wi : TI} {te : TE} {vs : List Nat} {σ : L2.St} {H : Hp} {Q : VK} {j n : Nat} {J : It} {G : Hp → Prop} {Y : Nat → Hp → V → Hp → Prop} (w : Walk J n G Y) (hw : ∀ R : It → Hp → Prop, R J H → wi σ H R) (hn : n ≤ 100000)
    (P : Nat → V → Hp → Prop) (hP : ∀ i v, Stab (P i v)) (hG : ∀ H', Same H H' → G H') (hv : ∀ x, wipe ((wipe σ vs).set j (some x)) vs = wipe σ vs)
    (hs : ∀ i x H1 H' (Q : VK), i < n → Same H H1 → Y i H1 x H' → (∀ y H4, Same H1 H4 → P i y H4 → Q y H4) → te ((wipe σ vs).set j (some x)) H' Q)
    (hd : ∀ D ys H', H D = none → ys.length = n → (∀ i y, ys[i]? = some y → P i y H') → Same H H' → H' D = some (.lst ys) → Q (.ref D) H') : tLc wi (gName j) tYes te vs σ H Q := by
  refine hw _ fun D hD => ?_
  refine lc_pure w hD hn P hP hG (fun i x H1 H' Q' R hi s y k => ⟨hv x, ?_⟩) fun ys H' hl hp s e => hd D ys H' hD hl hp s e
  show if true = true then te ((wipe σ vs).set j (some x)) H' Q' else R H'
  rw [if_pos rfl]
  exact hs i x H1 H' Q' hi s y k
/-- .. its target any -/
theorem tLc_any {wi : TI} {g : TG} {te : TE} {vs : List Nat} {σ : L2.St} {H : Hp} {Q : VK} {n : Nat} {J : It} {G : Hp → Prop} {Y : Nat → Hp → V → Hp → Prop} (w : Walk J n G Y) (hw : ∀ R : It → Hp → Prop, R J H → wi σ H R) (hn : n ≤ 100000)
    (P : Nat → V → Hp → Prop) (hP : ∀ i v, Stab (P i v)) (hG : ∀ H', Same H H' → G H')
    (hs : ∀ i x H1 H' (Q : VK), i < n → Same H H1 → Y i H1 x H' → (∀ y H4, Same H1 H4 → P i y H4 → Q y H4) → g x (wipe σ vs) H' fun σ2 H2 => wipe σ2 vs = wipe σ vs ∧ te σ2 H2 Q)
    (hg : ∀ x σ H (Q Q' : L2.St → Hp → Prop), (∀ σ' H', Q σ' H' → Q' σ' H') → g x σ H Q → g x σ H Q')
    (hd : ∀ D ys H', H D = none → ys.length = n → (∀ i y, ys[i]? = some y → P i y H') → Same H H' → H' D = some (.lst ys) → Q (.ref D) H') : tLc wi g tYes te vs σ H Q := by
  refine hw _ fun D hD => ?_
  refine lc_pure w hD hn P hP hG (fun i x H1 H' Q' R hi s y k => hg _ _ _ _ _ (fun σ2 H2 z => ⟨z.1, ?_⟩) (hs i x H1 H' Q' hi s y k)) fun ys H' hl hp s e => hd D ys H' hD hl hp s e
  show if true = true then te σ2 H2 Q' else R H2
  rw [if_pos rfl]
  exact z.2
/-- e.f, a property of an own class, by the getter's promise -/
theorem pe_pr {X : Cx} {k : Nat} {C g p : Addr} {sp : Sp} {e : Expr} {f : Str} {pos : Pos} {ta : TE} (he : PE X e ta) (c : Cls X.K C) (hp : PropOf X.K C f p g) (F : FnR X.prog X.w X.K X.mg X.base CX0 k g sp) (hr : Room (k + 1) X.A)
    (hab : attributeBase e f X.env (eval e X.env) = eval e X.env) : PE X (.Attribute e f pos) (tPropN C sp ta) := by
  refine ⟨fun pins s σ H Q I h => ?_⟩
  refine attr_of hab (thn (he.run pins s σ H _ I h) fun u s1 z => ?_)
  obtain ⟨x, H1, I1, rx, a, dx, fs, ex, ea, q⟩ := z
  subst ex
  cases rx
  obtain ⟨mA, O, _, _, _, _⟩ := ins_get I1.hok ea
  obtain ⟨od, J, _⟩ := O.look
  obtain ⟨rest, hrec⟩ := hp.rec_
  have I2 := I1.tok (s1.toks + 1)
  have hc : (PySem.W.clsIn X.K C).isSome = true := by
    obtain ⟨cd, hc, _⟩ := PySem.W.any_some c.hd
    rw [hc]
    rfl
  refine PySem.W.get_bind I1.kIn J (PySem.W.plainGet_of (c.get f)).1 (PySem.W.findObj_data hc hp.at_ hp.get hp.tak) (PySem.W.plainGet_of (c.get f)).2 (wpAny_call (PySem.W.prop_get (s := { s1 with toks := s1.toks + 1 }) I1.kIn hrec ?_))
  refine codeAny_mono (F X.A.in1 X.stack { s1 with toks := s1.toks + 1 } H1 [.ref a] [.ref a] Q E0 hr.in1 I2.env0.in1 (.cons rfl .nil) q) fun r s' hq => ?_
  cases r with
  | error er => exact False.elim hq
  | ok fl =>
    cases fl with
    | ret u =>
      obtain ⟨v, H', I3, rv, q3⟩ := I2.after hq
      show wpAny _ _ (handedOut u) _ _ _
      rw [PySem.W.handedOut_of (handed_of rv)]
      exact wpAny_pure ⟨v, H', I3, rv, q3⟩
    | next => exact False.elim hq
    | brk => exact False.elim hq
    | cont => exact False.elim hq
end K88
set_option maxHeartbeats 4000000
/-! What the walks lean on, by names. -/
namespace K88
open PySem PySem.Spec PyProof.Rows L2
def DefOk (K : PySem.W.Frag) (x qual : Str) (st : Stmt) (dfl : List V) (f : Addr) : Prop := ∃ fd, FunD K x qual (defArgs st) (defBody st) (defScope st) dfl [] f fd
theorem DefOk.kp {K : PySem.W.Frag} {x qual : Str} {st : Stmt} {dfl : List V} {f : Addr} (h : DefOk K x qual st dfl f) : PySem.W.keepIn K (.ref f) = true := by
  obtain ⟨_, F⟩ := h
  exact F.kp
def Insts (K : PySem.W.Frag) (C : Addr) : Prop := PySem.W.findIn K (.ref C) "__class__" = some (some (.builtin "object.__class__")) ∧ PySem.W.specialIn K (.builtin "object.__class__") "__get__" = some (some (.builtin "getset_descriptor.__get__")) ∧
  PySem.W.takesIn K (.builtin "object.__class__") = some true ∧ PySem.W.mroIn K C (.type "object") = some true
theorem Insts.ty {K : PySem.W.Frag} {C a dx : Addr} {H : Hp} {fs : List (Str × V)} (h : Insts K C) (c : Cls K C) (e : H a = some (.ins C dx fs)) : TyX K H (.ref a) (.ref C) := .base (.ins e c h.1 h.2.1 h.2.2.1 h.2.2.2)
theorem Insts.own {K : PySem.W.Frag} {C : Addr} : PySem.W.kitOne K (.ref C) (.ref C) = some true := by
  unfold PySem.W.kitOne
  rw [if_pos (by simp)]
def GStr (mg : Str → Option Value) (x z : Str) : Prop := ∃ t, mg x = some (.str z t)
def GInt (mg : Str → Option Value) (x : Str) (i : Int) : Prop := ∃ t, mg x = some (.int i t)
theorem pe_gs {X : Cx} {x z : Str} {pos : Pos} (h : GStr X.mg x z) (hg : Gl X x) (hd : (x == ("__debug__" : Str)) = false := by decide) : PE X (.Name x pos) (tC (.str z)) := by
  obtain ⟨t, e⟩ := h
  exact pe_glob hg e ⟨t, rfl⟩ hd
theorem pe_gi {X : Cx} {x : Str} {i : Int} {pos : Pos} (h : GInt X.mg x i) (hg : Gl X x) (hd : (x == ("__debug__" : Str)) = false := by decide) : PE X (.Name x pos) (tC (.int i)) := by
  obtain ⟨t, e⟩ := h
  exact pe_glob hg e ⟨t, rfl⟩ hd
def MtT (K : PySem.W.Frag) (a : Addr) : Prop := ∀ H : Hp, SqT K H a []
structure Lw (K : PySem.W.Frag) (mg : Str → Option Value) : Prop where
  is_word : DefOk K "is_word" "is_word" s_is_word [] a_is_word
  g_is_word : mg "is_word" = some (.ref a_is_word)
  is_address : DefOk K "is_address" "is_address" s_is_address [] a_is_address
  g_is_address : mg "is_address" = some (.ref a_is_address)
  is_number : DefOk K "is_number" "is_number" s_is_number [] a_is_number
  g_is_number : mg "is_number" = some (.ref a_is_number)
  is_day : DefOk K "is_day" "is_day" s_is_day [] a_is_day
  g_is_day : mg "is_day" = some (.ref a_is_day)
  address_key : DefOk K "address_key" "address_key" s_address_key [] a_address_key
  g_address_key : mg "address_key" = some (.ref a_address_key)
  is_place : DefOk K "is_place" "is_place" s_is_place [] a_is_place
  g_is_place : mg "is_place" = some (.ref a_is_place)
  is_redirect : DefOk K "is_redirect" "is_redirect" s_is_redirect [] a_is_redirect
  g_is_redirect : mg "is_redirect" = some (.ref a_is_redirect)
  is_rule_answer : DefOk K "is_rule_answer" "is_rule_answer" s_is_rule_answer [] a_is_rule_answer
  g_is_rule_answer : mg "is_rule_answer" = some (.ref a_is_rule_answer)
  is_rule : DefOk K "is_rule" "is_rule" s_is_rule [] a_is_rule
  g_is_rule : mg "is_rule" = some (.ref a_is_rule)
  rule_key : DefOk K "rule_key" "rule_key" s_rule_key [] a_rule_key
  g_rule_key : mg "rule_key" = some (.ref a_rule_key)
  Table_init : DefOk K "__init__" "Table.__init__" s_Table_init [.ref 353] a_Table_init
  Table_eq : DefOk K "__eq__" "Table.__eq__" s_Table_eq [] a_Table_eq
  Table_rules : DefOk K "rules" "Table.rules" s_Table_rules [] a_Table_rules
  Server_init : DefOk K "__init__" "Server.__init__" s_Server_init [] a_Server_init
  Server_eq : DefOk K "__eq__" "Server.__eq__" s_Server_eq [] a_Server_eq
  Server_days : DefOk K "days" "Server.days" s_Server_days [] a_Server_days
  Server_set_table : DefOk K "set_table" "Server.set_table" s_Server_set_table [] a_Server_set_table
  Server_count_on : DefOk K "count_on" "Server.count_on" s_Server_count_on [] a_Server_count_on
  Server_table : DefOk K "table" "Server.table" s_Server_table [] a_Server_table
  Claim_init : DefOk K "__init__" "Claim.__init__" s_Claim_init [] a_Claim_init
  Claim_as_tuple : DefOk K "as_tuple" "Claim.as_tuple" s_Claim_as_tuple [] a_Claim_as_tuple
  Site_init : DefOk K "__init__" "Site.__init__" s_Site_init [] a_Site_init
  Site_eq : DefOk K "__eq__" "Site.__eq__" s_Site_eq [] a_Site_eq
  Site_names : DefOk K "names" "Site.names" s_Site_names [] a_Site_names
  Site_last : DefOk K "last" "Site.last" s_Site_last [] a_Site_last
  Site_need_day : DefOk K "need_day" "Site.need_day" s_Site_need_day [] a_Site_need_day
  Site_need_known : DefOk K "need_known" "Site.need_known" s_Site_need_known [] a_Site_need_known
  Site_need_standing : DefOk K "need_standing" "Site.need_standing" s_Site_need_standing [] a_Site_need_standing
  Site_need_free : DefOk K "need_free" "Site.need_free" s_Site_need_free [] a_Site_need_free
  Site_note : DefOk K "note" "Site.note" s_Site_note [] a_Site_note
  Site_end_claim : DefOk K "end_claim" "Site.end_claim" s_Site_end_claim [] a_Site_end_claim
  Site_stand : DefOk K "stand" "Site.stand" s_Site_stand [] a_Site_stand
  Site_put : DefOk K "put" "Site.put" s_Site_put [] a_Site_put
  Site_put_page : DefOk K "put_page" "Site.put_page" s_Site_put_page [] a_Site_put_page
  Site_put_section : DefOk K "put_section" "Site.put_section" s_Site_put_section [] a_Site_put_section
  Site_need_place : DefOk K "need_place" "Site.need_place" s_Site_need_place [] a_Site_need_place
  Site_move : DefOk K "move" "Site.move" s_Site_move [] a_Site_move
  Site_bring : DefOk K "bring" "Site.bring" s_Site_bring [] a_Site_bring
  Site_merge : DefOk K "merge" "Site.merge" s_Site_merge [] a_Site_merge
  Site_take : DefOk K "take" "Site.take" s_Site_take [] a_Site_take
  Site_sort_of : DefOk K "sort_of" "Site.sort_of" s_Site_sort_of [] a_Site_sort_of
  Site_events : DefOk K "events" "Site.events" s_Site_events [] a_Site_events
  Site_claims : DefOk K "claims" "Site.claims" s_Site_claims [] a_Site_claims
  figure : DefOk K "figure" "figure" s_figure [] a_figure
  g_figure : mg "figure" = some (.ref a_figure)
  address_text : DefOk K "address_text" "address_text" s_address_text [] a_address_text
  g_address_text : mg "address_text" = some (.ref a_address_text)
  read_address : DefOk K "read_address" "read_address" s_read_address [] a_read_address
  g_read_address : mg "read_address" = some (.ref a_read_address)
  place_text : DefOk K "place_text" "place_text" s_place_text [] a_place_text
  g_place_text : mg "place_text" = some (.ref a_place_text)
  read_place : DefOk K "read_place" "read_place" s_read_place [] a_read_place
  g_read_place : mg "read_place" = some (.ref a_read_place)
  answer_text : DefOk K "answer_text" "answer_text" s_answer_text [] a_answer_text
  g_answer_text : mg "answer_text" = some (.ref a_answer_text)
  rule_text : DefOk K "rule_text" "rule_text" s_rule_text [] a_rule_text
  g_rule_text : mg "rule_text" = some (.ref a_rule_text)
  read_answer : DefOk K "read_answer" "read_answer" s_read_answer [] a_read_answer
  g_read_answer : mg "read_answer" = some (.ref a_read_answer)
  read_rule : DefOk K "read_rule" "read_rule" s_read_rule [] a_read_rule
  g_read_rule : mg "read_rule" = some (.ref a_read_rule)
  table_text : DefOk K "table_text" "table_text" s_table_text [] a_table_text
  g_table_text : mg "table_text" = some (.ref a_table_text)
  read_table : DefOk K "read_table" "read_table" s_read_table [] a_read_table
  g_read_table : mg "read_table" = some (.ref a_read_table)
  server_text : DefOk K "server_text" "server_text" s_server_text [] a_server_text
  g_server_text : mg "server_text" = some (.ref a_server_text)
  read_parts : DefOk K "read_parts" "read_parts" s_read_parts [] a_read_parts
  g_read_parts : mg "read_parts" = some (.ref a_read_parts)
  read_server : DefOk K "read_server" "read_server" s_read_server [] a_read_server
  g_read_server : mg "read_server" = some (.ref a_read_server)
  event_text : DefOk K "event_text" "event_text" s_event_text [] a_event_text
  g_event_text : mg "event_text" = some (.ref a_event_text)
  site_text : DefOk K "site_text" "site_text" s_site_text [] a_site_text
  g_site_text : mg "site_text" = some (.ref a_site_text)
  need_sort : DefOk K "need_sort" "need_sort" s_need_sort [] a_need_sort
  g_need_sort : mg "need_sort" = some (.ref a_need_sort)
  happen : DefOk K "happen" "happen" s_happen [] a_happen
  g_happen : mg "happen" = some (.ref a_happen)
  read_site : DefOk K "read_site" "read_site" s_read_site [] a_read_site
  g_read_site : mg "read_site" = some (.ref a_read_site)
  law_well : DefOk K "_law_well" "_law_well" s_law_well [] a_law_well
  g_law_well : mg "_law_well" = some (.ref a_law_well)
  law_draw : DefOk K "_law_draw" "_law_draw" s_law_draw [] a_law_draw
  g_law_draw : mg "_law_draw" = some (.ref a_law_draw)
  law_choose : DefOk K "_law_choose" "_law_choose" s_law_choose [] a_law_choose
  g_law_choose : mg "_law_choose" = some (.ref a_law_choose)
  law_address : DefOk K "_law_address" "_law_address" s_law_address [] a_law_address
  g_law_address : mg "_law_address" = some (.ref a_law_address)
  law_rule : DefOk K "_law_rule" "_law_rule" s_law_rule [] a_law_rule
  g_law_rule : mg "_law_rule" = some (.ref a_law_rule)
  law_rules : DefOk K "_law_rules" "_law_rules" s_law_rules [] a_law_rules
  g_law_rules : mg "_law_rules" = some (.ref a_law_rules)
  law_address_text : DefOk K "_law_address_text" "_law_address_text" s_law_address_text [] a_law_address_text
  g_law_address_text : mg "_law_address_text" = some (.ref a_law_address_text)
  law_rule_text : DefOk K "_law_rule_text" "_law_rule_text" s_law_rule_text [] a_law_rule_text
  g_law_rule_text : mg "_law_rule_text" = some (.ref a_law_rule_text)
  law_table_text : DefOk K "_law_table_text" "_law_table_text" s_law_table_text [] a_law_table_text
  g_law_table_text : mg "_law_table_text" = some (.ref a_law_table_text)
  law_server_text : DefOk K "_law_server_text" "_law_server_text" s_law_server_text [] a_law_server_text
  g_law_server_text : mg "_law_server_text" = some (.ref a_law_server_text)
  law_event_text : DefOk K "_law_event_text" "_law_event_text" s_law_event_text [] a_law_event_text
  g_law_event_text : mg "_law_event_text" = some (.ref a_law_event_text)
  law_site_steps : DefOk K "_law_site_steps" "_law_site_steps" s_law_site_steps [] a_law_site_steps
  g_law_site_steps : mg "_law_site_steps" = some (.ref a_law_site_steps)
  law_happen : DefOk K "_law_happen" "_law_happen" s_law_happen [] a_law_happen
  g_law_happen : mg "_law_happen" = some (.ref a_law_happen)
  law_site : DefOk K "_law_site" "_law_site" s_law_site [] a_law_site
  g_law_site : mg "_law_site" = some (.ref a_law_site)
  law_tables : DefOk K "_law_tables" "_law_tables" s_law_tables [] a_law_tables
  g_law_tables : mg "_law_tables" = some (.ref a_law_tables)
  law_server : DefOk K "_law_server" "_law_server" s_law_server [] a_law_server
  g_law_server : mg "_law_server" = some (.ref a_law_server)
  law : DefOk K "law" "law" s_law [] a_law
  g_law : mg "law" = some (.ref a_law)
  g_Table : mg "Table" = some (.ref a_Table)
  c_Table : Cls K a_Table
  g_Server : mg "Server" = some (.ref a_Server)
  c_Server : Cls K a_Server
  g_Claim : mg "Claim" = some (.ref a_Claim)
  c_Claim : Cls K a_Claim
  g_Site : mg "Site" = some (.ref a_Site)
  c_Site : Cls K a_Site
  n_Table_lines : NoAttr K a_Table "lines"
  n_Server_starts : NoAttr K a_Server "starts"
  n_Server_tables : NoAttr K a_Server "tables"
  n_Claim_kind : NoAttr K a_Claim "kind"
  n_Claim_spot : NoAttr K a_Claim "spot"
  n_Claim_name : NoAttr K a_Claim "name"
  n_Claim_made : NoAttr K a_Claim "made"
  n_Claim_ended : NoAttr K a_Claim "ended"
  n_Site_happened : NoAttr K a_Site "happened"
  n_Site_sorts : NoAttr K a_Site "sorts"
  n_Site_spots : NoAttr K a_Site "spots"
  n_Site_others : NoAttr K a_Site "others"
  n_Site_held : NoAttr K a_Site "held"
  m_Table_init : Meth K a_Table "__init__" a_Table_init
  m_Table_eq : Meth K a_Table "__eq__" a_Table_eq
  m_Server_init : Meth K a_Server "__init__" a_Server_init
  m_Server_eq : Meth K a_Server "__eq__" a_Server_eq
  m_Server_set_table : Meth K a_Server "set_table" a_Server_set_table
  m_Server_count_on : Meth K a_Server "count_on" a_Server_count_on
  m_Server_table : Meth K a_Server "table" a_Server_table
  m_Claim_init : Meth K a_Claim "__init__" a_Claim_init
  m_Claim_as_tuple : Meth K a_Claim "as_tuple" a_Claim_as_tuple
  m_Site_init : Meth K a_Site "__init__" a_Site_init
  m_Site_eq : Meth K a_Site "__eq__" a_Site_eq
  m_Site_need_day : Meth K a_Site "need_day" a_Site_need_day
  m_Site_need_known : Meth K a_Site "need_known" a_Site_need_known
  m_Site_need_standing : Meth K a_Site "need_standing" a_Site_need_standing
  m_Site_need_free : Meth K a_Site "need_free" a_Site_need_free
  m_Site_note : Meth K a_Site "note" a_Site_note
  m_Site_end_claim : Meth K a_Site "end_claim" a_Site_end_claim
  m_Site_stand : Meth K a_Site "stand" a_Site_stand
  m_Site_put : Meth K a_Site "put" a_Site_put
  m_Site_put_page : Meth K a_Site "put_page" a_Site_put_page
  m_Site_put_section : Meth K a_Site "put_section" a_Site_put_section
  m_Site_need_place : Meth K a_Site "need_place" a_Site_need_place
  m_Site_move : Meth K a_Site "move" a_Site_move
  m_Site_bring : Meth K a_Site "bring" a_Site_bring
  m_Site_merge : Meth K a_Site "merge" a_Site_merge
  m_Site_take : Meth K a_Site "take" a_Site_take
  m_Site_sort_of : Meth K a_Site "sort_of" a_Site_sort_of
  m_Site_events : Meth K a_Site "events" a_Site_events
  m_Site_claims : Meth K a_Site "claims" a_Site_claims
  mk_Table : Mk K a_Table a_Table_init
  mk_Server : Mk K a_Server a_Server_init
  mk_Claim : Mk K a_Claim a_Claim_init
  mk_Site : Mk K a_Site a_Site_init
  p_Table_rules : PropOf K a_Table "rules" 388 a_Table_rules
  p_Server_days : PropOf K a_Server "days" 455 a_Server_days
  p_Site_names : PropOf K a_Site "names" 574 a_Site_names
  p_Site_last : PropOf K a_Site "last" 582 a_Site_last
  i_Table : Insts K a_Table
  i_Server : Insts K a_Server
  i_Site : Insts K a_Site
  mt : MtT K 353
  z_isinstance : mg "isinstance" = none
  z_str : mg "str" = none
  z_tuple : mg "tuple" = none
  z_int : mg "int" = none
  z_len : mg "len" = none
  z_all : mg "all" = none
  z_sorted : mg "sorted" = none
  z_range : mg "range" = none
  z_list : mg "list" = none
  z_max : mg "max" = none
  z_min : mg "min" = none
  z_zip : mg "zip" = none
  z_bool : mg "bool" = none
  s_LETTERS : GStr mg "LETTERS" "abcdefghijklmnopqrstuvwxyz"
  s_DIGITS : GStr mg "DIGITS" "0123456789"
  s_PAGE : GStr mg "PAGE" "page"
  s_SECTION : GStr mg "SECTION" "section"
  i_MOST_LETTERS : GInt mg "MOST_LETTERS" 12
  i_LAST_DAY : GInt mg "LAST_DAY" 1000000
  i_MOST_RULES : GInt mg "MOST_RULES" 40
  i_MOST_WORDS : GInt mg "MOST_WORDS" 4
  i_MOST_DAYS : GInt mg "MOST_DAYS" 10000
section
variable {K : PySem.W.Frag}
theorem f_cls {C : Addr} (c : (Fc.cls C).ok K = true) : Cls K C := by
  obtain ⟨c1, c⟩ := He.ba c
  obtain ⟨c2, c⟩ := He.ba c
  obtain ⟨c3, c4⟩ := He.ba c
  exact ⟨c1, c2, c3, He.eqO_ok c4⟩
theorem f_meth {C f : Addr} {m : Str} (c : (Fc.meth C m f).ok K = true) : Meth K C m f := by
  obtain ⟨c1, c⟩ := He.ba c
  obtain ⟨c2, c3⟩ := He.ba c
  exact ⟨He.eqO_ok c1, c2, c3⟩
theorem f_mk {C f : Addr} (c : (Fc.mkr C f).ok K = true) : Mk K C f := by
  obtain ⟨c1, c⟩ := He.ba c
  obtain ⟨c2, c⟩ := He.ba c
  obtain ⟨c3, c4⟩ := He.ba c
  exact ⟨c1, He.eqO_ok c2, c3, c4⟩
theorem f_prop {C p g : Addr} {f : Str} (c : (Fc.prop C f p g).ok K = true) : PropOf K C f p g := by
  obtain ⟨c1, c⟩ := He.ba c
  obtain ⟨c2, c⟩ := He.ba c
  obtain ⟨c3, c4⟩ := He.ba c
  refine ⟨He.eqO_ok c1, He.eqO_ok c2, of_decide_eq_true c3, ?_⟩
  cases e : PySem.W.recIn K p "property" with
  | none => rw [e] at c4; cases c4
  | some l =>
    rw [e] at c4
    cases l with
    | nil => cases c4
    | cons v r =>
      cases v with
      | ref h => exact ⟨r, by rw [show h = g from of_decide_eq_true c4]⟩
      | _ => cases c4
theorem f_inst {C : Addr} (c : (Fc.inst C).ok K = true) : Insts K C := by
  obtain ⟨c1, c⟩ := He.ba c
  obtain ⟨c2, c⟩ := He.ba c
  obtain ⟨c3, c4⟩ := He.ba c
  exact ⟨He.eqO_ok c1, He.eqO_ok c2, of_decide_eq_true c3, of_decide_eq_true c4⟩
theorem f_mt {a : Addr} (c : (Fc.mt0 a).ok K = true) : MtT K a := by
  intro H
  have c1 : (match K.lookup a with
      | some ⟨.type c, _, .seq its _, _⟩ => decide (c = "tuple") && decide (its.size = 0)
      | _ => false) = true := c
  cases q : K.lookup a with
  | none => rw [q] at c1; cases c1
  | some o =>
    obtain ⟨oc, od, dt, osl⟩ := o
    rw [q] at c1
    cases oc with
    | type T =>
      cases dt with
      | seq its n =>
        obtain ⟨h1, h2⟩ := He.ba (show (decide (T = "tuple") && decide (its.size = 0)) = true from c1)
        have e : its = #[] := Array.eq_empty_of_size_eq_zero (of_decide_eq_true h2)
        subst e
        exact .inr ⟨_, #[], n, q, congrArg Value.type (of_decide_eq_true h1), rfl, Nat.zero_le _, .nil⟩
      | _ => cases c1
    | _ => cases dt <;> cases c1
end
theorem SaysP.fact' {fa : List Fc} {fn : List DefP} {K : PySem.W.Frag} (c : SaysP fa fn K) (i : Nat) {f : Fc} (h : fa[i]? = some f := by rfl) : f.ok K = true := c.fact (List.mem_of_getElem? h)
theorem lw_of {K : PySem.W.Frag} {h : Heap} {mg : Str → Option Value} (X : K.In h) (G : h.Ns mainGlobals mg) (c : SaysP fa fn K) : Lw K mg where
  is_word := c.def_ 0 (d := d_is_word)
  g_is_word := PySem.W.mg_of X G (He.eqO_ok (c.fact' 0 (f := .glo "is_word" 270)))
  is_address := c.def_ 1 (d := d_is_address)
  g_is_address := PySem.W.mg_of X G (He.eqO_ok (c.fact' 1 (f := .glo "is_address" 275)))
  is_number := c.def_ 2 (d := d_is_number)
  g_is_number := PySem.W.mg_of X G (He.eqO_ok (c.fact' 2 (f := .glo "is_number" 282)))
  is_day := c.def_ 3 (d := d_is_day)
  g_is_day := PySem.W.mg_of X G (He.eqO_ok (c.fact' 3 (f := .glo "is_day" 289)))
  address_key := c.def_ 4 (d := d_address_key)
  g_address_key := PySem.W.mg_of X G (He.eqO_ok (c.fact' 4 (f := .glo "address_key" 303)))
  is_place := c.def_ 5 (d := d_is_place)
  g_is_place := PySem.W.mg_of X G (He.eqO_ok (c.fact' 5 (f := .glo "is_place" 321)))
  is_redirect := c.def_ 6 (d := d_is_redirect)
  g_is_redirect := PySem.W.mg_of X G (He.eqO_ok (c.fact' 6 (f := .glo "is_redirect" 326)))
  is_rule_answer := c.def_ 7 (d := d_is_rule_answer)
  g_is_rule_answer := PySem.W.mg_of X G (He.eqO_ok (c.fact' 7 (f := .glo "is_rule_answer" 331)))
  is_rule := c.def_ 8 (d := d_is_rule)
  g_is_rule := PySem.W.mg_of X G (He.eqO_ok (c.fact' 8 (f := .glo "is_rule" 338)))
  rule_key := c.def_ 9 (d := d_rule_key)
  g_rule_key := PySem.W.mg_of X G (He.eqO_ok (c.fact' 9 (f := .glo "rule_key" 345)))
  Table_init := c.def_ 10 (d := d_Table_init)
  Table_eq := c.def_ 11 (d := d_Table_eq)
  Table_rules := c.def_ 12 (d := d_Table_rules)
  Server_init := c.def_ 13 (d := d_Server_init)
  Server_eq := c.def_ 14 (d := d_Server_eq)
  Server_days := c.def_ 15 (d := d_Server_days)
  Server_set_table := c.def_ 16 (d := d_Server_set_table)
  Server_count_on := c.def_ 17 (d := d_Server_count_on)
  Server_table := c.def_ 18 (d := d_Server_table)
  Claim_init := c.def_ 19 (d := d_Claim_init)
  Claim_as_tuple := c.def_ 20 (d := d_Claim_as_tuple)
  Site_init := c.def_ 21 (d := d_Site_init)
  Site_eq := c.def_ 22 (d := d_Site_eq)
  Site_names := c.def_ 23 (d := d_Site_names)
  Site_last := c.def_ 24 (d := d_Site_last)
  Site_need_day := c.def_ 25 (d := d_Site_need_day)
  Site_need_known := c.def_ 26 (d := d_Site_need_known)
  Site_need_standing := c.def_ 27 (d := d_Site_need_standing)
  Site_need_free := c.def_ 28 (d := d_Site_need_free)
  Site_note := c.def_ 29 (d := d_Site_note)
  Site_end_claim := c.def_ 30 (d := d_Site_end_claim)
  Site_stand := c.def_ 31 (d := d_Site_stand)
  Site_put := c.def_ 32 (d := d_Site_put)
  Site_put_page := c.def_ 33 (d := d_Site_put_page)
  Site_put_section := c.def_ 34 (d := d_Site_put_section)
  Site_need_place := c.def_ 35 (d := d_Site_need_place)
  Site_move := c.def_ 36 (d := d_Site_move)
  Site_bring := c.def_ 37 (d := d_Site_bring)
  Site_merge := c.def_ 38 (d := d_Site_merge)
  Site_take := c.def_ 39 (d := d_Site_take)
  Site_sort_of := c.def_ 40 (d := d_Site_sort_of)
  Site_events := c.def_ 41 (d := d_Site_events)
  Site_claims := c.def_ 42 (d := d_Site_claims)
  figure := c.def_ 43 (d := d_figure)
  g_figure := PySem.W.mg_of X G (He.eqO_ok (c.fact' 10 (f := .glo "figure" 751)))
  address_text := c.def_ 44 (d := d_address_text)
  g_address_text := PySem.W.mg_of X G (He.eqO_ok (c.fact' 11 (f := .glo "address_text" 758)))
  read_address := c.def_ 45 (d := d_read_address)
  g_read_address := PySem.W.mg_of X G (He.eqO_ok (c.fact' 12 (f := .glo "read_address" 765)))
  place_text := c.def_ 46 (d := d_place_text)
  g_place_text := PySem.W.mg_of X G (He.eqO_ok (c.fact' 13 (f := .glo "place_text" 772)))
  read_place := c.def_ 47 (d := d_read_place)
  g_read_place := PySem.W.mg_of X G (He.eqO_ok (c.fact' 14 (f := .glo "read_place" 779)))
  answer_text := c.def_ 48 (d := d_answer_text)
  g_answer_text := PySem.W.mg_of X G (He.eqO_ok (c.fact' 15 (f := .glo "answer_text" 784)))
  rule_text := c.def_ 49 (d := d_rule_text)
  g_rule_text := PySem.W.mg_of X G (He.eqO_ok (c.fact' 16 (f := .glo "rule_text" 791)))
  read_answer := c.def_ 50 (d := d_read_answer)
  g_read_answer := PySem.W.mg_of X G (He.eqO_ok (c.fact' 17 (f := .glo "read_answer" 796)))
  read_rule := c.def_ 51 (d := d_read_rule)
  g_read_rule := PySem.W.mg_of X G (He.eqO_ok (c.fact' 18 (f := .glo "read_rule" 803)))
  table_text := c.def_ 52 (d := d_table_text)
  g_table_text := PySem.W.mg_of X G (He.eqO_ok (c.fact' 19 (f := .glo "table_text" 808)))
  read_table := c.def_ 53 (d := d_read_table)
  g_read_table := PySem.W.mg_of X G (He.eqO_ok (c.fact' 20 (f := .glo "read_table" 813)))
  server_text := c.def_ 54 (d := d_server_text)
  g_server_text := PySem.W.mg_of X G (He.eqO_ok (c.fact' 21 (f := .glo "server_text" 818)))
  read_parts := c.def_ 55 (d := d_read_parts)
  g_read_parts := PySem.W.mg_of X G (He.eqO_ok (c.fact' 22 (f := .glo "read_parts" 825)))
  read_server := c.def_ 56 (d := d_read_server)
  g_read_server := PySem.W.mg_of X G (He.eqO_ok (c.fact' 23 (f := .glo "read_server" 832)))
  event_text := c.def_ 57 (d := d_event_text)
  g_event_text := PySem.W.mg_of X G (He.eqO_ok (c.fact' 24 (f := .glo "event_text" 837)))
  site_text := c.def_ 58 (d := d_site_text)
  g_site_text := PySem.W.mg_of X G (He.eqO_ok (c.fact' 25 (f := .glo "site_text" 842)))
  need_sort := c.def_ 59 (d := d_need_sort)
  g_need_sort := PySem.W.mg_of X G (He.eqO_ok (c.fact' 26 (f := .glo "need_sort" 849)))
  happen := c.def_ 60 (d := d_happen)
  g_happen := PySem.W.mg_of X G (He.eqO_ok (c.fact' 27 (f := .glo "happen" 854)))
  read_site := c.def_ 61 (d := d_read_site)
  g_read_site := PySem.W.mg_of X G (He.eqO_ok (c.fact' 28 (f := .glo "read_site" 861)))
  law_well := c.def_ 62 (d := d_law_well)
  g_law_well := PySem.W.mg_of X G (He.eqO_ok (c.fact' 29 (f := .glo "_law_well" 868)))
  law_draw := c.def_ 63 (d := d_law_draw)
  g_law_draw := PySem.W.mg_of X G (He.eqO_ok (c.fact' 30 (f := .glo "_law_draw" 875)))
  law_choose := c.def_ 64 (d := d_law_choose)
  g_law_choose := PySem.W.mg_of X G (He.eqO_ok (c.fact' 31 (f := .glo "_law_choose" 882)))
  law_address := c.def_ 65 (d := d_law_address)
  g_law_address := PySem.W.mg_of X G (He.eqO_ok (c.fact' 32 (f := .glo "_law_address" 887)))
  law_rule := c.def_ 66 (d := d_law_rule)
  g_law_rule := PySem.W.mg_of X G (He.eqO_ok (c.fact' 33 (f := .glo "_law_rule" 894)))
  law_rules := c.def_ 67 (d := d_law_rules)
  g_law_rules := PySem.W.mg_of X G (He.eqO_ok (c.fact' 34 (f := .glo "_law_rules" 901)))
  law_address_text := c.def_ 68 (d := d_law_address_text)
  g_law_address_text := PySem.W.mg_of X G (He.eqO_ok (c.fact' 35 (f := .glo "_law_address_text" 908)))
  law_rule_text := c.def_ 69 (d := d_law_rule_text)
  g_law_rule_text := PySem.W.mg_of X G (He.eqO_ok (c.fact' 36 (f := .glo "_law_rule_text" 915)))
  law_table_text := c.def_ 70 (d := d_law_table_text)
  g_law_table_text := PySem.W.mg_of X G (He.eqO_ok (c.fact' 37 (f := .glo "_law_table_text" 920)))
  law_server_text := c.def_ 71 (d := d_law_server_text)
  g_law_server_text := PySem.W.mg_of X G (He.eqO_ok (c.fact' 38 (f := .glo "_law_server_text" 927)))
  law_event_text := c.def_ 72 (d := d_law_event_text)
  g_law_event_text := PySem.W.mg_of X G (He.eqO_ok (c.fact' 39 (f := .glo "_law_event_text" 934)))
  law_site_steps := c.def_ 73 (d := d_law_site_steps)
  g_law_site_steps := PySem.W.mg_of X G (He.eqO_ok (c.fact' 40 (f := .glo "_law_site_steps" 939)))
  law_happen := c.def_ 74 (d := d_law_happen)
  g_law_happen := PySem.W.mg_of X G (He.eqO_ok (c.fact' 41 (f := .glo "_law_happen" 946)))
  law_site := c.def_ 75 (d := d_law_site)
  g_law_site := PySem.W.mg_of X G (He.eqO_ok (c.fact' 42 (f := .glo "_law_site" 953)))
  law_tables := c.def_ 76 (d := d_law_tables)
  g_law_tables := PySem.W.mg_of X G (He.eqO_ok (c.fact' 43 (f := .glo "_law_tables" 960)))
  law_server := c.def_ 77 (d := d_law_server)
  g_law_server := PySem.W.mg_of X G (He.eqO_ok (c.fact' 44 (f := .glo "_law_server" 967)))
  law := c.def_ 78 (d := d_law)
  g_law := PySem.W.mg_of X G (He.eqO_ok (c.fact' 45 (f := .glo "law" 972)))
  g_Table := PySem.W.mg_of X G (He.eqO_ok (c.fact' 46 (f := .glo "Table" 415)))
  c_Table := f_cls (c.fact' 72 (f := .cls 415))
  g_Server := PySem.W.mg_of X G (He.eqO_ok (c.fact' 47 (f := .glo "Server" 513)))
  c_Server := f_cls (c.fact' 73 (f := .cls 513))
  g_Claim := PySem.W.mg_of X G (He.eqO_ok (c.fact' 48 (f := .glo "Claim" 541)))
  c_Claim := f_cls (c.fact' 74 (f := .cls 541))
  g_Site := PySem.W.mg_of X G (He.eqO_ok (c.fact' 49 (f := .glo "Site" 742)))
  c_Site := f_cls (c.fact' 75 (f := .cls 742))
  n_Table_lines := He.eqO_ok (c.fact' 76 (f := .noat 415 "lines"))
  n_Server_starts := He.eqO_ok (c.fact' 77 (f := .noat 513 "starts"))
  n_Server_tables := He.eqO_ok (c.fact' 78 (f := .noat 513 "tables"))
  n_Claim_kind := He.eqO_ok (c.fact' 79 (f := .noat 541 "kind"))
  n_Claim_spot := He.eqO_ok (c.fact' 80 (f := .noat 541 "spot"))
  n_Claim_name := He.eqO_ok (c.fact' 81 (f := .noat 541 "name"))
  n_Claim_made := He.eqO_ok (c.fact' 82 (f := .noat 541 "made"))
  n_Claim_ended := He.eqO_ok (c.fact' 83 (f := .noat 541 "ended"))
  n_Site_happened := He.eqO_ok (c.fact' 84 (f := .noat 742 "happened"))
  n_Site_sorts := He.eqO_ok (c.fact' 85 (f := .noat 742 "sorts"))
  n_Site_spots := He.eqO_ok (c.fact' 86 (f := .noat 742 "spots"))
  n_Site_others := He.eqO_ok (c.fact' 87 (f := .noat 742 "others"))
  n_Site_held := He.eqO_ok (c.fact' 88 (f := .noat 742 "held"))
  m_Table_init := f_meth (c.fact' 89 (f := .meth 415 "__init__" 359))
  m_Table_eq := f_meth (c.fact' 90 (f := .meth 415 "__eq__" 380))
  m_Server_init := f_meth (c.fact' 91 (f := .meth 513 "__init__" 440))
  m_Server_eq := f_meth (c.fact' 92 (f := .meth 513 "__eq__" 447))
  m_Server_set_table := f_meth (c.fact' 93 (f := .meth 513 "set_table" 462))
  m_Server_count_on := f_meth (c.fact' 94 (f := .meth 513 "count_on" 467))
  m_Server_table := f_meth (c.fact' 95 (f := .meth 513 "table" 474))
  m_Claim_init := f_meth (c.fact' 96 (f := .meth 541 "__init__" 531))
  m_Claim_as_tuple := f_meth (c.fact' 97 (f := .meth 541 "as_tuple" 538))
  m_Site_init := f_meth (c.fact' 98 (f := .meth 742 "__init__" 559))
  m_Site_eq := f_meth (c.fact' 99 (f := .meth 742 "__eq__" 566))
  m_Site_need_day := f_meth (c.fact' 100 (f := .meth 742 "need_day" 589))
  m_Site_need_known := f_meth (c.fact' 101 (f := .meth 742 "need_known" 596))
  m_Site_need_standing := f_meth (c.fact' 102 (f := .meth 742 "need_standing" 603))
  m_Site_need_free := f_meth (c.fact' 103 (f := .meth 742 "need_free" 610))
  m_Site_note := f_meth (c.fact' 104 (f := .meth 742 "note" 617))
  m_Site_end_claim := f_meth (c.fact' 105 (f := .meth 742 "end_claim" 624))
  m_Site_stand := f_meth (c.fact' 106 (f := .meth 742 "stand" 631))
  m_Site_put := f_meth (c.fact' 107 (f := .meth 742 "put" 638))
  m_Site_put_page := f_meth (c.fact' 108 (f := .meth 742 "put_page" 645))
  m_Site_put_section := f_meth (c.fact' 109 (f := .meth 742 "put_section" 652))
  m_Site_need_place := f_meth (c.fact' 110 (f := .meth 742 "need_place" 659))
  m_Site_move := f_meth (c.fact' 111 (f := .meth 742 "move" 666))
  m_Site_bring := f_meth (c.fact' 112 (f := .meth 742 "bring" 673))
  m_Site_merge := f_meth (c.fact' 113 (f := .meth 742 "merge" 680))
  m_Site_take := f_meth (c.fact' 114 (f := .meth 742 "take" 687))
  m_Site_sort_of := f_meth (c.fact' 115 (f := .meth 742 "sort_of" 694))
  m_Site_events := f_meth (c.fact' 116 (f := .meth 742 "events" 715))
  m_Site_claims := f_meth (c.fact' 117 (f := .meth 742 "claims" 720))
  mk_Table := f_mk (c.fact' 118 (f := .mkr 415 359))
  mk_Server := f_mk (c.fact' 119 (f := .mkr 513 440))
  mk_Claim := f_mk (c.fact' 120 (f := .mkr 541 531))
  mk_Site := f_mk (c.fact' 121 (f := .mkr 742 559))
  p_Table_rules := f_prop (c.fact' 122 (f := .prop 415 "rules" 388 387))
  p_Server_days := f_prop (c.fact' 123 (f := .prop 513 "days" 455 454))
  p_Site_names := f_prop (c.fact' 124 (f := .prop 742 "names" 574 573))
  p_Site_last := f_prop (c.fact' 125 (f := .prop 742 "last" 582 581))
  i_Table := f_inst (c.fact' 126 (f := .inst 415))
  i_Server := f_inst (c.fact' 127 (f := .inst 513))
  i_Site := f_inst (c.fact' 128 (f := .inst 742))
  mt := f_mt (c.fact' 129 (f := .mt0 353))
  z_isinstance := PySem.W.mg_none_of X G (He.eqO_ok (c.fact' 50 (f := .free "isinstance")))
  z_str := PySem.W.mg_none_of X G (He.eqO_ok (c.fact' 51 (f := .free "str")))
  z_tuple := PySem.W.mg_none_of X G (He.eqO_ok (c.fact' 52 (f := .free "tuple")))
  z_int := PySem.W.mg_none_of X G (He.eqO_ok (c.fact' 53 (f := .free "int")))
  z_len := PySem.W.mg_none_of X G (He.eqO_ok (c.fact' 54 (f := .free "len")))
  z_all := PySem.W.mg_none_of X G (He.eqO_ok (c.fact' 55 (f := .free "all")))
  z_sorted := PySem.W.mg_none_of X G (He.eqO_ok (c.fact' 56 (f := .free "sorted")))
  z_range := PySem.W.mg_none_of X G (He.eqO_ok (c.fact' 57 (f := .free "range")))
  z_list := PySem.W.mg_none_of X G (He.eqO_ok (c.fact' 58 (f := .free "list")))
  z_max := PySem.W.mg_none_of X G (He.eqO_ok (c.fact' 59 (f := .free "max")))
  z_min := PySem.W.mg_none_of X G (He.eqO_ok (c.fact' 60 (f := .free "min")))
  z_zip := PySem.W.mg_none_of X G (He.eqO_ok (c.fact' 61 (f := .free "zip")))
  z_bool := PySem.W.mg_none_of X G (He.eqO_ok (c.fact' 62 (f := .free "bool")))
  s_LETTERS := He.str_ok X G (c.fact' 63 (f := .str "LETTERS" "abcdefghijklmnopqrstuvwxyz"))
  s_DIGITS := He.str_ok X G (c.fact' 64 (f := .str "DIGITS" "0123456789"))
  s_PAGE := He.str_ok X G (c.fact' 65 (f := .str "PAGE" "page"))
  s_SECTION := He.str_ok X G (c.fact' 66 (f := .str "SECTION" "section"))
  i_MOST_LETTERS := He.int_ok X G (c.fact' 67 (f := .int "MOST_LETTERS" 12))
  i_LAST_DAY := He.int_ok X G (c.fact' 68 (f := .int "LAST_DAY" 1000000))
  i_MOST_RULES := He.int_ok X G (c.fact' 69 (f := .int "MOST_RULES" 40))
  i_MOST_WORDS := He.int_ok X G (c.fact' 70 (f := .int "MOST_WORDS" 4))
  i_MOST_DAYS := He.int_ok X G (c.fact' 71 (f := .int "MOST_DAYS" 10000))
end K88
set_option maxHeartbeats 4000000
/-! What the values stand for. -/
namespace K88
open PySem PySem.Spec PyProof.Rows L2
/-- a text by its signs -/
abbrev T (l : List Nat) : Str := SX.S l
/-- words, addresses -/
abbrev Wd := List Nat
abbrev Ad := List Wd
structure OkW (w : Wd) : Prop where
  lo : 1 ≤ w.length
  hi : w.length ≤ 12
  az : ∀ c ∈ w, 97 ≤ c ∧ c ≤ 122
structure OkA (a : Ad) : Prop where
  hi : a.length ≤ 4
  ok : ∀ w ∈ a, OkW w
def vW (w : Wd) : V := .str (T w)
/-- a tuple of words -/
def AdAt (K : PySem.W.Frag) (H : Hp) (v : V) (a : Ad) : Prop := ∃ p, v = .ref p ∧ SqT K H p (a.map vW)
theorem AdAt.keep {K : PySem.W.Frag} {H H' : Hp} {v : V} {a : Ad} (h : AdAt K H v a) (e : KeepN H H') : AdAt K H' v a := by
  obtain ⟨p, rfl, q⟩ := h
  exact ⟨p, rfl, sqt_keepN e q⟩
theorem AdAt.mono {K : PySem.W.Frag} {H H' : Hp} {v : V} {a : Ad} (h : AdAt K H v a) (e : Same H H') : AdAt K H' v a := h.keep e.keepN
/-- answers, rules -/
inductive An where
  | gone | page (n : Wd) | section (n : Wd) | to (t : Ad) (d : Nat)
structure Ru where
  ex : Bool
  at_ : Ad
  an : An
def codes (s : String) : List Nat := (Str.ofString s).cps.toList
def sPage : Wd := [112, 97, 103, 101]
def sSection : Wd := [115, 101, 99, 116, 105, 111, 110]
def sGone : Wd := [103, 111, 110, 101]
def sTo : Wd := [116, 111]
def sExact : Wd := [101, 120, 97, 99, 116]
def sOpen : Wd := [111, 112, 101, 110]
def sortOf (ex : Bool) : Wd := if ex then sExact else sOpen
def OkAn (ex : Bool) : An → Prop
  | .gone => True
  | .page n => ex = true ∧ OkW n
  | .section n => ex = false ∧ OkW n
  | .to t d => OkA t ∧ d ≤ 10000
structure OkR (r : Ru) : Prop where
  at_ : OkA r.at_
  an : OkAn r.ex r.an
def AnAt (K : PySem.W.Frag) (H : Hp) (v : V) : An → Prop
  | .gone => ∃ p, v = .ref p ∧ SqT K H p [vW sGone]
  | .page n => ∃ p, v = .ref p ∧ SqT K H p [vW sPage, vW n]
  | .section n => ∃ p, v = .ref p ∧ SqT K H p [vW sSection, vW n]
  | .to t d => ∃ p u, v = .ref p ∧ SqT K H p [vW sTo, u, .int (d : Int)] ∧ AdAt K H u t
theorem AnAt.keep {K : PySem.W.Frag} {H H' : Hp} {v : V} {a : An} (h : AnAt K H v a) (e : KeepN H H') : AnAt K H' v a := by
  cases a with
  | gone => obtain ⟨p, rfl, q⟩ := h; exact ⟨p, rfl, sqt_keepN e q⟩
  | page n => obtain ⟨p, rfl, q⟩ := h; exact ⟨p, rfl, sqt_keepN e q⟩
  | «section» n => obtain ⟨p, rfl, q⟩ := h; exact ⟨p, rfl, sqt_keepN e q⟩
  | to t d => obtain ⟨p, u, rfl, q, z⟩ := h; exact ⟨p, u, rfl, sqt_keepN e q, z.keep e⟩
/-- a rule, its three parts -/
def RuAt (K : PySem.W.Frag) (H : Hp) (v : V) (r : Ru) : Prop := ∃ p x y, v = .ref p ∧ SqT K H p [vW (sortOf r.ex), x, y] ∧ AdAt K H x r.at_ ∧ AnAt K H y r.an
theorem RuAt.keep {K : PySem.W.Frag} {H H' : Hp} {v : V} {r : Ru} (h : RuAt K H v r) (e : KeepN H H') : RuAt K H' v r := by
  obtain ⟨p, x, y, rfl, q, a, b⟩ := h
  exact ⟨p, x, y, rfl, sqt_keepN e q, a.keep e, b.keep e⟩
theorem RuAt.mono {K : PySem.W.Frag} {H H' : Hp} {v : V} {r : Ru} (h : RuAt K H v r) (e : Same H H') : RuAt K H' v r := h.keep e.keepN
theorem AnAt.mono {K : PySem.W.Frag} {H H' : Hp} {v : V} {a : An} (h : AnAt K H v a) (e : Same H H') : AnAt K H' v a := h.keep e.keepN
/-- a value, nothing changed -/
def RetV (H : Hp) (Q : VK) (v : V) : Prop := ∀ H', Same H H' → Q v H'
end K88
namespace K88
open PySem PySem.Spec PyProof.Rows L2
theorem lit_to : V.str (Str.ofString "to") = vW sTo := by decide +kernel
theorem lit_page : V.str (Str.ofString "page") = vW sPage := by decide +kernel
theorem lit_section : V.str (Str.ofString "section") = vW sSection := by decide +kernel
theorem lit_gone : V.str (Str.ofString "gone") = vW sGone := by decide +kernel
theorem lit_exact : V.str (Str.ofString "exact") = vW sExact := by decide +kernel
theorem lit_open : V.str (Str.ofString "open") = vW sOpen := by decide +kernel
theorem vW_inj {a b : Wd} (h : vW a = vW b) : a = b := by
  have h1 : (⟨a.toArray⟩ : Str) = ⟨b.toArray⟩ := V.str.inj h
  have h2 : a.toArray = b.toArray := congrArg Str.cps h1
  simpa using h2
theorem vW_ne {a b : Wd} (h : a ≠ b) : vW a ≠ vW b := fun e => h (vW_inj e)
theorem scal_W {a b : Wd} : scal (vW a) (vW b) = true := rfl
theorem dec_W {a b : Wd} : decide (vW a = vW b) = decide (a = b) := by
  by_cases h : a = b
  · rw [h]
    simp
  · rw [decide_eq_false h, decide_eq_false (vW_ne h)]
theorem nel {a b : Nat} (h : Nat.beq a b = false) : a ≠ b := fun e => by
  rw [e, Nat.beq_refl] at h
  cases h
theorem cx_K {CX : CXT} {P : Program} {w : World} {K : PySem.W.Frag} {mg : Str → Option Value} {base : Heap} {N : List Str} {q : Str} {sc : Scope} {f : Addr} {cd : Value} {A : Around} {outer : List Env} {s : Shared} {H : Hp} {E : XK} : (cxOf CX P w K mg base N q sc f cd A outer s H E).K = K := rfl
end K88
set_option maxHeartbeats 4000000
/-! The texts in plain Lean. -/
namespace K88
open PySem PySem.Spec PyProof.Rows L2
def tAd (a : Ad) : List Nat := 47 :: TL.joinL [47] a
def tPl (ex : Bool) (a : Ad) : List Nat := if ex = true then tAd a else if a = [] then [47, 42] else tAd a ++ [47, 42]
/-- the digits of a number -/
def dg (n : Nat) : List Nat := (Str.ofString (toString (n : Int))).cps.toList
def sFor : Wd := [102, 111, 114]
def tAn : An → List Nat
  | .gone => sGone
  | .page n => sPage ++ ([32] ++ n)
  | .section n => sSection ++ ([32] ++ n)
  | .to t d => if d = 0 then sTo ++ ([32] ++ tAd t) else sTo ++ ([32] ++ (tAd t ++ ([32] ++ (sFor ++ ([32] ++ dg d)))))
def tR (r : Ru) : List Nat := tPl r.ex r.at_ ++ ([32] ++ tAn r.an)
def tLn (ls : List (List Nat)) : List Nat := TL.joinL [10] ls
/-! ### lengths -/
theorem joinL_len (sep : List Nat) (m : Nat) : ∀ ls : List (List Nat), (∀ l ∈ ls, l.length ≤ m) → (TL.joinL sep ls).length ≤ ls.length * (m + sep.length)
  | [], _ => Nat.zero_le _
  | [l], h => by
    show l.length ≤ 1 * (m + sep.length)
    have := h l (List.mem_cons_self ..)
    omega
  | l :: k :: r, h => by
    have h1 := h l (List.mem_cons_self ..)
    have h2 := joinL_len sep m (k :: r) fun x hx => h x (List.mem_cons_of_mem _ hx)
    show (l ++ (sep ++ TL.joinL sep (k :: r))).length ≤ _
    rw [List.length_append, List.length_append, List.length_cons (a := l), Nat.succ_mul]
    omega
theorem sum_len (m : Nat) : ∀ ls : List (List Nat), (∀ l ∈ ls, l.length ≤ m) → (ls.map List.length).sum ≤ ls.length * m
  | [], _ => Nat.zero_le _
  | l :: r, h => by
    have h1 := h l (List.mem_cons_self ..)
    have h2 := sum_len m r fun x hx => h x (List.mem_cons_of_mem _ hx)
    rw [List.map_cons, List.sum_cons, List.length_cons, Nat.succ_mul]
    omega
theorem tAd_len {a : Ad} (ok : OkA a) : (tAd a).length ≤ 53 := by
  have h1 := joinL_len [47] 12 a fun w hw => (ok.ok w hw).hi
  have h2 := ok.hi
  have h3 : a.length * (12 + [47].length) ≤ 4 * 13 := Nat.mul_le_mul h2 (Nat.le_refl _)
  show (TL.joinL [47] a).length + 1 ≤ 53
  omega
theorem tPl_len {ex : Bool} {a : Ad} (ok : OkA a) : (tPl ex a).length ≤ 55 := by
  have h := tAd_len ok
  unfold tPl
  split
  · omega
  · split
    · decide
    · rw [List.length_append]
      exact Nat.add_le_add_right h 2
/-! ### as data, for == -/
def dW (w : Wd) : PyData := .str (T w)
def dA (a : Ad) : PyData := .tuple (a.map dW)
theorem dpa_W {K : PySem.W.Frag} {H : Hp} : ∀ a : Ad, DpAll K H (a.map vW) (a.map dW)
  | [] => .nil
  | w :: a => .cons (.str _) (dpa_W a)
theorem AdAt.dp {K : PySem.W.Frag} {H : Hp} {v : V} {a : Ad} (h : AdAt K H v a) : Dp K H v (dA a) := by
  obtain ⟨p, rfl, q⟩ := h
  exact .tup q (dpa_W a)
theorem T_inj {a b : List Nat} (h : T a = T b) : a = b := SX.S_inj h
theorem T_beq (a b : List Nat) : (T a == T b) = decide (a = b) := SX.S_beq_eq
theorem eqv_W (a b : Wd) : PyData.eqv (dW a) (dW b) = decide (a = b) := T_beq a b
theorem eqvAll_W : ∀ a b : Ad, PyData.eqvAll (a.map dW) (b.map dW) = decide (a = b)
  | [], [] => rfl
  | [], _ :: _ => rfl
  | _ :: _, [] => rfl
  | x :: a, y :: b => by
    show (PyData.eqv (dW x) (dW y) && PyData.eqvAll (a.map dW) (b.map dW)) = _
    rw [eqv_W, eqvAll_W a b]
    by_cases h : x = y
    · by_cases h2 : a = b
      · simp [h, h2]
      · simp [h, h2]
    · simp [h]
theorem eqv_A (a b : Ad) : PyData.eqv (dA a) (dA b) = decide (a = b) := eqvAll_W a b
theorem lay_W {w : Wd} (h : ∀ c ∈ w, c < 1114112) : (dW w).canLay0 = true := by
  show (T w).cps.all (· < 0x110000) = true
  rw [Array.all_eq_true']
  intro c hc
  have h1 : c ∈ w := by simpa using hc
  exact decide_eq_true (h c h1)
theorem OkW.lay {w : Wd} (ok : OkW w) : (dW w).canLay0 = true := lay_W fun c hc => by
  have := (ok.az c hc).2
  omega
theorem layAll_W : ∀ {a : Ad}, (∀ w ∈ a, OkW w) → PyData.canLayAll0 (a.map dW) = true
  | [], _ => rfl
  | x :: a, h => by
    show ((dW x).canLay0 && PyData.canLayAll0 (a.map dW)) = true
    rw [(h x (List.mem_cons_self ..)).lay, layAll_W fun w hw => h w (List.mem_cons_of_mem _ hw)]
    rfl
theorem depthAll_W : ∀ a : Ad, PyData.depthAll (a.map dW) = 0
  | [] => rfl
  | x :: a => by
    show max (PyData.depth (dW x)) (PyData.depthAll (a.map dW)) = 0
    rw [depthAll_W a]
    rfl
theorem shaped_A {a : Ad} (h : ∀ w ∈ a, OkW w) : SeqAt.shaped (dA a) = true := by
  show (PyData.canLayAll0 (a.map dW) && decide (PyData.depthAll (a.map dW) + 1 ≤ 64)) = true
  rw [layAll_W h, depthAll_W]
  rfl
end K88
set_option maxHeartbeats 4000000
/-! f-strings of texts, of ints; steps. -/
namespace K88
open PySem PySem.Spec PyProof.Rows L2
section
variable {X : Cx}
def tFmtS (te : TE) : TE := fun σ H Q => te σ H fun x H1 => ∃ y : Str, x = .str y ∧ y.length ≤ sizeLine ∧ Q (.str y) H1
theorem pe_fmtS {e : Expr} {te : TE} {pos : Pos} (he : PE X e te) : PE X (.FormattedValue e (-1) none pos) (tFmtS te) := by
  refine ⟨fun pins s σ H Q I h => ?_⟩
  refine wpAny_FormattedValue_plain (thn (he.run pins s σ H _ I h) fun v s1 hv => ?_)
  obtain ⟨x, H1, I1, r1, y, rfl, hz, q⟩ := hv
  obtain ⟨t, rfl⟩ := r1
  exact wpAny_formatField_str ⟨.str y, H1, I1, ⟨t, rfl⟩, q⟩ ⟨.str y, H1, I1.tok _, ⟨_, rfl⟩, q⟩ hz
def tFmtI (te : TE) : TE := fun σ H Q => te σ H fun x H1 => ∃ i : Int, x = .int i ∧ i.natAbs.log2 < 1920 ∧ Q (.str (Str.ofString (toString i))) H1
theorem pe_fmtI {e : Expr} {te : TE} {pos : Pos} (he : PE X e te) : PE X (.FormattedValue e (-1) none pos) (tFmtI te) := by
  refine ⟨fun pins s σ H Q I h => ?_⟩
  refine wpAny_FormattedValue_plain (thn (he.run pins s σ H _ I h) fun v s1 hv => ?_)
  obtain ⟨x, H1, I1, r1, i, rfl, hz, q⟩ := hv
  obtain ⟨t, rfl⟩ := r1
  exact wpAny_formatField_int hz ⟨.str (Str.ofString (toString i)), H1, I1.tok _, ⟨_, rfl⟩, q⟩
end
/-! ### steps: a test that decides, what is made beside -/
section
variable {tt : TT} {ta tb u : L2.TS} {ea eb : TE} {D : Ends} {σ : L2.St} {H : Hp} {Q : VK}
def Dec (tt : TT) (σ : L2.St) (H : Hp) (b : Bool) : Prop := ∀ R : Bool → Hp → Prop, (∀ H1, Same H H1 → R b H1) → tt σ H R
theorem if_no (h : Dec tt σ H false) (k : ∀ H1, Same H H1 → tb D σ H1) : tIfS tt ta tb D σ H := h _ fun H1 s1 => iteF (k H1 s1)
theorem if_yes (h : Dec tt σ H true) (k : ∀ H1, Same H H1 → ta D σ H1) : tIfS tt ta tb D σ H := h _ fun H1 s1 => iteT (k H1 s1)
theorem sif_no (h : Dec tt σ H false) (k : ∀ H1, Same H H1 → tb { D with nx := u D } σ H1) : tSeq (tIfS tt ta tb) u D σ H := if_no h k
theorem sif_yes (h : Dec tt σ H true) (k : ∀ H1, Same H H1 → ta { D with nx := u D } σ H1) : tSeq (tIfS tt ta tb) u D σ H := if_yes h k
theorem sif_nx (h : Dec tt σ H false) (k : ∀ H1, Same H H1 → u D σ H1) : tSeq (tIfS tt ta tNext) u D σ H := if_no h k
theorem ife_no (h : Dec tt σ H false) (k : ∀ H1, Same H H1 → eb σ H1 Q) : tIf tt ea eb σ H Q := h _ fun H1 s1 => iteF (k H1 s1)
theorem ife_yes (h : Dec tt σ H true) (k : ∀ H1, Same H H1 → ea σ H1 Q) : tIf tt ea eb σ H Q := h _ fun H1 s1 => iteT (k H1 s1)
theorem sasg {te : TE} {i : Nat} (h : te σ H fun x H1 => u D (σ.set i (some x)) H1) : tSeq (tAsg te (gName i)) u D σ H := h
theorem sdrop {te : TE} (h : te σ H fun _ H1 => u D σ H1) : tSeq (tDrop te) u D σ H := h
theorem szl {n : Nat} (h : Nat.ble n 1000 = true) : n ≤ sizeLine := Nat.le_trans (Nat.le_of_ble_eq_true h) (by decide)
end
/-! ### x, *rest = a list -/
section
variable {prog : Program} {w : World} {A : Around} {E : Value → Shared → Prop} {s : Shared}
open PySem.W in
theorem unpack_star1 {l : Addr} {items : Array Value} {Q : List Value → Shared → Prop} (hl : s.heap.IsList l items) (hh : A.handled = none) (hn : 1 ≤ items.size) (hz : items.size ≤ 1000)
    (h : ∀ (h' : Heap) (tk : Nat), (∀ b o, s.heap.get? b = some o → h'.get? b = some o) → Q (items.toList.take 1 ++ [.ref h'.objs.size]) { s with heap := h'.push { cls := .type "list", data := .seq (items.toList.drop 1).toArray }, toks := tk }) : wpAny (model prog w) A (unpackItems (.ref l) 2 (some 1)) Q E s := by
  have hlt : l ≠ s.heap.objs.size := by obtain ⟨o, ho, _⟩ := hl; exact Nat.ne_of_lt (Heap.lt_size ho)
  have hll : l < s.heap.objs.size := by obtain ⟨o, ho, _⟩ := hl; exact Heap.lt_size ho
  unfold unpackItems
  refine wpAny_bind ?_
  unfold notIterableAtAll
  refine wpAny_bind (wpAny_specialOf hl.typeIs slot_list_iter.lookup ?_)
  refine wpAny_pure ?_
  simp only [Bool.false_eq_true, if_false]
  refine wpAny_bind (wpAny_holding (wpAny_pyIter_list hl ?_))
  refine wpAny_bind (wpAny_holding (kun_draw hlt 1 0 _ _ ⟨_, Heap.get?_push_size _ rfl, rfl, rfl⟩ (hl.push _) (by omega) fun h₁ hit₁ hs₁ => ?_))
  have hl₁ : h₁.IsList l items := (hl.push _).extBut hs₁.extBut hlt
  rw [Nat.zero_add] at hit₁
  have hit₁' := hit₁
  obtain ⟨oi, hoi, _⟩ := hit₁'
  have hl₁' := hl₁
  obtain ⟨ol, hol, _⟩ := hl₁'
  rw [List.drop_zero]
  have hfl : (items.toList.take 1).length = 1 := by rw [List.length_take, Array.length_toList]; omega
  rw [if_neg (show ¬ ((items.toList.take 1).length < 1) by rw [hfl]; omega)]
  have hz2 : items.size ≤ sizeLine := Nat.le_trans hz (by decide)
  refine wpAny_bind (wpAny_holding (kun_collect (s := { s with heap := h₁ }) (T := "list_iterator") (.inr (.inr (.inl rfl))) (Walks.list (A := A.in1) hh s.heap.objs.size l hlt items) (fun j u st => st.1.typeIs) (k := 1) (by omega) ⟨hit₁, hl₁⟩ (Heap.lt_size hoi) (Heap.lt_size hol) (fun h₂ tk hk => ?_) hz2))
  have hrl : (items.toList.drop 1).length = items.size - 1 := by rw [List.length_drop, Array.length_toList]
  show wpAny _ _ (if (items.toList.drop 1).length < 0 then _ else _) _ _ _
  rw [if_neg (Nat.not_lt_zero _)]
  show wpAny _ _ (newList ((items.toList.drop 1).take (items.toList.drop 1).length) >>= fun d => pure (items.toList.take 1 ++ [d] ++ (items.toList.drop 1).drop (items.toList.drop 1).length)) _ _ _
  rw [List.take_length, List.drop_length]
  refine wpAny_bind (wpAny_newList (wpAny_pure ?_) (by rw [hrl]; omega))
  rw [List.append_nil]
  exact h h₂ tk fun b o e => hk b o (Nat.ne_of_lt (Heap.lt_size e)) (hs₁.extBut b o (Nat.ne_of_lt (Heap.lt_size e)) (Heap.get?_push_of_some _ e))
end
def gStar (K : PySem.W.Frag) (t : TGs) : TG := fun v σ H Q => ∃ a x xs, v = .ref a ∧ SqL K H a (x :: xs) ∧ xs.length < 1000 ∧ ∀ p, H p = none → t [x, .ref p] σ (upd H p (.lst xs)) Q
theorem pg_star {X : Cx} {e1 e2 : Expr} {p2 pos : Pos} {k : Nat} {t : TGs} (hc : X.calm = true) (h : PGs X [e1, e2] t)
    (hn : (assignEach [e1, .Starred e2 p2] X.env).length = 2 := by rfl) (hst : (assignEach [e1, .Starred e2 p2] X.env).findIdx? (·.1) = some 1 := by rfl)
    (hm : (assignEach [e1, .Starred e2 p2] X.env).map (·.2) = (assignEach [e1, e2] X.env).map (·.2) := by rfl) : PG X (.Tuple [e1, .Starred e2 p2] k pos) (gStar X.K t) := by
  refine ⟨fun pins s σ H v u Q I r hw => ?_⟩
  obtain ⟨a, x, xs, rfl, hq, hl, hw⟩ := hw
  cases r
  obtain ⟨its, rv, pl, hz⟩ := I.list hq
  cases rv with
  | cons r0 rr =>
    rename_i u0 us
    rw [PyProof.Rows.assign_Tuple]
    refine wpAny_bind (wpAny_standAt ?_)
    unfold unpack
    rw [hn, hst, hm]
    refine wpAny_bind (wpAny_holding (unpack_star1 pl.isList (I.ok.hd hc) (by simp) (by have := rr.length; simp; omega) fun h' tk hx => ?_))
    have I1 : Inv X pins σ H { s with heap := h', toks := tk } := I.kept hx
    have hf : H h'.objs.size = none := I1.hok.fresh (Nat.le_refl _)
    have I2 := I1.laid (t' := tk) (o := .lst xs) (a := h'.objs.size) (h' := h'.push { cls := .type "list", data := .seq us.toArray }) (fun b u e => Heap.get?_push_of_some _ e) (Nat.le_refl _) ⟨by show xs.length ≤ sizeLine; exact Nat.le_trans (Nat.le_of_lt hl) (by decide), us, 0, rr, Heap.get?_push_size _ rfl⟩
    exact h.run pins _ σ _ [x, .ref h'.objs.size] _ Q I2 (.cons r0 (.cons rfl .nil)) (hw _ hf)
end K88
set_option maxHeartbeats 4000000
/-! Dicts of rules: the keys are pairs of a sort and a place. -/
namespace K88
open PySem PySem.Spec PyProof.Rows L2
/-- a key: exact or open, the place -/
abbrev Ky := Bool × Ad
def nk (k : Ky) : NestedKey := .tup [.text (T (sortOf k.1)), .tup (k.2.map fun w => .text (T w))]
theorem nk_texts_inj : ∀ {a b : Ad}, a.map (fun w => NestedKey.text (T w)) = b.map (fun w => NestedKey.text (T w)) → a = b
  | [], [], _ => rfl
  | [], _ :: _, h => nomatch h
  | _ :: _, [], h => nomatch h
  | x :: a, y :: b, h => by
    rw [List.map_cons, List.map_cons] at h
    injection h with h1 h2
    injection h1 with h1
    rw [T_inj h1, nk_texts_inj h2]
theorem sortOf_inj {x y : Bool} (h : sortOf x = sortOf y) : x = y := by
  cases x <;> cases y <;> first | rfl | (exact absurd h (by decide))
theorem nk_inj {a b : Ky} (h : nk a = nk b) : a = b := by
  injection h with h
  injection h with h1 h2
  injection h1 with h1
  injection h2 with h2 _
  injection h2 with h2
  exact Prod.ext (sortOf_inj (T_inj h1)) (nk_texts_inj h2)
theorem nk_depth (k : Ky) : (nk k).depth ≤ 8 := by
  have h : ∀ a : Ad, NestedKey.depthAll (a.map fun w => NestedKey.text (T w)) = 0 := by
    intro a
    induction a with
    | nil => rfl
    | cons x a ih =>
      show max 0 (NestedKey.depthAll (a.map fun w => NestedKey.text (T w))) = 0
      rw [ih] <;> rfl
  show max 0 (max (NestedKey.depthAll (k.2.map fun w => NestedKey.text (T w)) + 1) 0) + 1 ≤ 8
  rw [h]
  decide
/-- an entry: the key, the key's tuple, the value -/
abbrev Ent := Ky × Addr × V
def DnX (es : List Ent) (xs : List (NestedKey × Addr × Value)) : Prop := Paired (fun (e : Ent) (x : NestedKey × Addr × Value) => x.1 = nk e.1 ∧ x.2.1 = e.2.1 ∧ RelV e.2.2 x.2.2) es xs
def DnOk (P : Program) (w : World) (d : Addr) (es : List Ent) (h : Heap) : Prop := (d == sysModules) = false ∧ es.length ≤ sizeLine ∧ ∃ xs : List (NestedKey × Addr × Value), DnX es xs ∧
  ∃ o des ep, h.get? d = some o ∧ o.ExactDict ∧ o.data = .dict des ep ∧ des.toList = xs.map (entryOfKey (nestedKind P w)) ∧ (xs.map (·.1)).Nodup
def DN (P : Program) (w : World) (d : Addr) (es : List Ent) : HO := .ext (DnOk P w d es)
/-- the key's tuple -/
def KyAt (K : PySem.W.Frag) (H : Hp) (b : Addr) (k : Ky) : Prop := ∃ q, SqT K H b [vW (sortOf k.1), .ref q] ∧ SqT K H q (k.2.map vW)
theorem KyAt.keep {K : PySem.W.Frag} {H H' : Hp} {b : Addr} {k : Ky} (h : KyAt K H b k) (e : KeepN H H') : KyAt K H' b k := by
  obtain ⟨q, h1, h2⟩ := h
  exact ⟨q, sqt_keepN e h1, sqt_keepN e h2⟩
theorem KyAt.mono {K : PySem.W.Frag} {H H' : Hp} {b : Addr} {k : Ky} (h : KyAt K H b k) (e : Same H H') : KyAt K H' b k := h.keep e.keepN
def KysAt (K : PySem.W.Frag) (H : Hp) (es : List Ent) : Prop := ∀ e ∈ es, KyAt K H e.2.1 e.1
theorem KysAt.keep {K : PySem.W.Frag} {H H' : Hp} {es : List Ent} (h : KysAt K H es) (e : KeepN H H') : KysAt K H' es := fun x hx => (h x hx).keep e
theorem nested_words {h : Heap} : ∀ {a : Ad} {us : List Value}, Vals (a.map vW) us → NestedAll h (a.map fun w => NestedKey.text (T w)) us
  | [], _, r => by
    cases r
    exact .nil
  | w :: a, _, r => by
    cases r with
    | cons r rr =>
      obtain ⟨t, rfl⟩ := r
      exact .cons (.text _ _) (nested_words rr)
section
variable {X : Cx} {pins : List (Addr × Obj)} {σ : L2.St} {H : Hp} {s : Shared}
theorem ky_is {b : Addr} {k : Ky} (I : Inv X pins σ H s) (h : KyAt X.K H b k) : (nestedKind X.prog X.w).is s.heap (nk k) b := by
  obtain ⟨q, h1, h2⟩ := h
  obtain ⟨i1, r1, ⟨o1, g1, c1, n1, d1⟩, _⟩ := I.tuple h1
  obtain ⟨i2, r2, ⟨o2, g2, c2, n2, d2⟩, _⟩ := I.tuple h2
  refine ⟨?_, nk_depth k⟩
  refine NestedIs.tup g1 c1 d1 ?_
  cases r1 with
  | cons ra rr =>
    cases rr with
    | cons rb rr =>
      cases rr
      obtain ⟨t, rfl⟩ := ra
      cases rb
      refine .cons (.text _ _) (.cons (NestedIs.tup g2 c2 d2 ?_) .nil)
      exact nested_words r2
theorem dn_is {es : List Ent} {xs : List (NestedKey × Addr × Value)} (I : Inv X pins σ H s) (r : DnX es xs) (k : KysAt X.K H es) : ∀ x ∈ xs, (nestedKind X.prog X.w).is s.heap x.1 x.2.1 := by
  induction r with
  | nil => intro x hx; cases hx
  | cons h t ih =>
    intro x hx
    rcases List.mem_cons.mp hx with rfl | hx
    · rw [h.1, h.2.1]
      exact ky_is I (k _ (List.mem_cons_self ..))
    · exact ih (fun e he => k e (List.mem_cons_of_mem _ he)) x hx
theorem dn_get {d : Addr} {es : List Ent} (I : Inv X pins σ H s) (e : H d = some (DN X.prog X.w d es)) (k : KysAt X.K H es) :
    (d == sysModules) = false ∧ es.length ≤ sizeLine ∧ ∃ xs, DnX es xs ∧ s.heap.DictOfH (nestedKind X.prog X.w) d xs := by
  obtain ⟨⟨z1, z2, xs, r, o, des, ep, g, x, dd, te, nd⟩, _⟩ := (show ObjOk X.prog X.w H s.heap d (DN X.prog X.w d es) from I.hok d _ e)
  exact ⟨z1, z2, xs, r, o, des, ep, g, x, dd, te, dn_is I r k, nd⟩
theorem dn_ok {P : Program} {w : World} {H : Hp} {h : Heap} {d : Addr} {es : List Ent} {xs : List (NestedKey × Addr × Value)} (z1 : (d == sysModules) = false) (z2 : es.length ≤ sizeLine) (r : DnX es xs) (m : h.DictOfH (nestedKind P w) d xs) : ObjOk P w H h d (DN P w d es) := by
  obtain ⟨o, des, ep, g, x, dd, te, _, nd⟩ := m
  refine ⟨⟨z1, z2, xs, r, o, des, ep, g, x, dd, te, nd⟩, ⟨o, g⟩, ?_⟩
  rintro h1 h2 ⟨z1, z2, xs, r, o, des, ep, g, x, dd, te, nd⟩ k
  exact ⟨z1, z2, xs, r, o, des, ep, k o g, x, dd, te, nd⟩
/-- d[k] = v -/
def putN (es : List Ent) (k : Ky) (b : Addr) (v : V) : List Ent := if es.any (fun e => decide (e.1 = k)) = true then es.map (fun e => if e.1 = k then (e.1, e.2.1, v) else e) else es ++ [(k, b, v)]
theorem putN_len (es : List Ent) (k : Ky) (b : Addr) (v : V) : (putN es k b v).length ≤ es.length + 1 := by
  unfold putN
  split <;> simp
theorem dnx_has {es : List Ent} {xs : List (NestedKey × Addr × Value)} (r : DnX es xs) (k : Ky) : (atKey xs (nk k)).isSome = es.any (fun e => decide (e.1 = k)) := by
  induction r with
  | nil => rfl
  | @cons e x es xs h t ih =>
    unfold atKey at ih ⊢
    rw [List.find?_cons, List.any_cons, h.1]
    by_cases q : e.1 = k
    · rw [q, decide_eq_true rfl, decide_eq_true rfl]
      rfl
    · rw [decide_eq_false q, decide_eq_false (fun z => q (nk_inj z)), Bool.false_or]
      exact ih
theorem dnx_map {es : List Ent} {xs : List (NestedKey × Addr × Value)} (r : DnX es xs) (k : Ky) {v : V} {u : Value} (rv : RelV v u) : DnX (es.map fun e => if e.1 = k then (e.1, e.2.1, v) else e) (xs.map (putAt (nk k) u)) := by
  induction r with
  | nil => exact .nil
  | @cons e x es xs h t ih =>
    refine .cons ?_ ih
    unfold putAt
    dsimp only
    by_cases q : e.1 = k
    · rw [if_pos q, if_pos (by rw [h.1, q])]
      exact ⟨h.1, h.2.1, rv⟩
    · rw [if_neg q, if_neg (fun z => q (nk_inj (h.1.symm.trans z)))]
      exact h
theorem dnx_app {es : List Ent} {xs : List (NestedKey × Addr × Value)} (r : DnX es xs) (k : Ky) (b : Addr) {v : V} {u : Value} (rv : RelV v u) : DnX (es ++ [(k, b, v)]) (xs ++ [(nk k, b, u)]) := by
  induction r with
  | nil => exact .cons ⟨rfl, rfl, rv⟩ .nil
  | cons h t ih => exact .cons h ih
theorem dnx_put {es : List Ent} {xs : List (NestedKey × Addr × Value)} (r : DnX es xs) (k : Ky) (b : Addr) {v : V} {u : Value} (rv : RelV v u) : DnX (putN es k b v) (storedH xs (nk k) b u) := by
  unfold putN storedH
  rw [dnx_has r k]
  split
  · exact dnx_map r k rv
  · exact dnx_app r k b rv
theorem dn_setItem {A : Around} {E : Value → Shared → Prop} {d b : Addr} {es : List Ent} {k : Ky} {v : V} {u : Value} {Q : Unit → Shared → Prop} (hu : A.units + 64 < cLine) (I : Inv X pins σ H s) (e : H d = some (DN X.prog X.w d es)) (ks : KysAt X.K H es) (hz : es.length < sizeLine)
    (kb : KyAt X.K H b k) (rv : RelV v u) (h : ∀ s', Inv X pins σ (upd H d (DN X.prog X.w d (putN es k b v))) s' → Q () s') : wpAny (model X.prog X.w) A (setItem (.ref d) (.ref b) u) Q E s := by
  obtain ⟨z1, z2, xs, r, m⟩ := dn_get I e ks
  have hl : xs.length = es.length := (Paired.length r).symm
  refine wpAny_setItem_heap (hsz := by rw [hl]; exact z2) (show (nestedKind X.prog X.w).room A.in1 from by show A.units + 1 + 8 < cLine; omega) (ky_is I kb) m fun h' m' hs => h _ ?_
  have he : ∃ q, h'.get? d = some q := let ⟨q, _, _, hq, _⟩ := m'; ⟨q, hq⟩
  exact d_write I (by rw [e]; exact True.intro) hs he (dn_ok z1 (by have := putN_len es k b v; omega) (dnx_put r k b rv) m')
theorem dn_dictSet {A : Around} {E : Value → Shared → Prop} {d b : Addr} {es : List Ent} {k : Ky} {v : V} {u : Value} {Q : Unit → Shared → Prop} (hu : A.units + 64 < cLine) (I : Inv X pins σ H s) (e : H d = some (DN X.prog X.w d es)) (ks : KysAt X.K H es) (hz : es.length < sizeLine)
    (kb : KyAt X.K H b k) (rv : RelV v u) (h : ∀ s', Inv X pins σ (upd H d (DN X.prog X.w d (putN es k b v))) s' → Q () s') : wpAny (model X.prog X.w) A (dictSet d (.ref b) u) Q E s := by
  obtain ⟨z1, z2, xs, r, m⟩ := dn_get I e ks
  have hl : xs.length = es.length := (Paired.length r).symm
  refine wpAny_dictSet_heap (hsz := by rw [hl]; exact z2) (show (nestedKind X.prog X.w).room A from by show A.units + 8 < cLine; omega) (ky_is I kb) m fun h' m' hs => h _ ?_
  have he : ∃ q, h'.get? d = some q := let ⟨q, _, _, hq, _⟩ := m'; ⟨q, hq⟩
  exact d_write I (by rw [e]; exact True.intro) hs he (dn_ok z1 (by have := putN_len es k b v; omega) (dnx_put r k b rv) m')
theorem dn_empty {P : Program} {w : World} {H : Hp} (h : Heap) (hb : sysModules < h.objs.size) : ObjOk P w H (h.push { cls := .type "dict", data := .dict #[] }) h.objs.size (DN P w h.objs.size []) :=
  dn_ok (beq_eq_false_iff_ne.mpr (Ne.symm (Nat.ne_of_lt hb))) (Nat.zero_le _) .nil (Heap.DictOfH.new h)
end
/-! ### as rules -/
section
variable {X : Cx} {pos : Pos}
def tDNewN (P : Program) (w : World) : TE := fun _ H Q => ∀ p, H p = none → Q (.ref p) (upd H p (DN P w p []))
theorem pe_dnewN : PE X (.Dict [] [] pos) (tDNewN X.prog X.w) := ⟨fun pins s σ H Q I h =>
  wpAny_Dict_empty ⟨.ref s.heap.objs.size, _, I.laid (a := s.heap.objs.size) (o := DN X.prog X.w s.heap.objs.size []) (t' := s.toks) (fun _ _ q => Heap.get?_push_of_some _ q) (Nat.le_refl _) (dn_empty s.heap I.big), rfl, h _ (I.hok.fresh (Nat.le_refl _))⟩⟩
/-- d[k] = v -/
def sDPutN (P : Program) (w : World) (K : PySem.W.Frag) (td ty tv : TE) : L2.TS := fun D σ H => tv σ H fun v H1 => td σ H1 fun x H2 => ty σ H2 fun y H3 => ∃ d b es k, x = .ref d ∧ y = .ref b ∧ H3 d = some (DN P w d es) ∧ KysAt K H3 es ∧ es.length < sizeLine ∧ KyAt K H3 b k ∧
  D.nx σ (upd H3 d (DN P w d (putN es k b v)))
theorem ps_dputN {o i value : Expr} {td ty tv : TE} {pos' : Pos} (hu : X.A.units + 64 < cLine) (ho : PE X o td) (hi : PE X i ty) (hv : PE X value tv) (hs : swapsWith value (some (.Subscript o i pos')) pos.line X.env = pure false) :
    PS X (.Assign [.Subscript o i pos'] value pos) (sDPutN X.prog X.w X.K td ty tv) := by
  refine ⟨fun pins s σ H D I h => ?_⟩
  refine wpAny_Assign_Subscript (thn (hv.run pins s σ H _ I h) fun r s1 ⟨v, H1, I1, rv, q1⟩ => thn (ho.run pins s1 σ H1 _ I1 q1) fun u s2 ⟨x, H2, I2, rx, q2⟩ => thn (hi.run pins s2 σ H2 _ I2 q2) fun iv s3 ⟨y, H3, I3, ry, d, b, es, k, ex, ey, e, ks, hz, kb, q3⟩ => ?_) hs
  subst ex ey
  obtain rfl : u = Value.ref d := rx
  obtain rfl : iv = Value.ref b := ry
  exact dn_setItem hu I3 e ks hz kb rv fun s4 I4 => ⟨σ, _, I4, q3⟩
/-- len(d) -/
def rLenN (P : Program) (w : World) (K : PySem.W.Frag) : List V → Hp → VK → Prop := fun xs H Q => ∃ d es, xs = [.ref d] ∧ H d = some (DN P w d es) ∧ KysAt K H es ∧ Q (.int ((es.length : Nat) : Int)) H
theorem call_len_dN : CallR X (.builtin "len") (rLenN X.prog X.w X.K) := by
  intro pins s σ H xs us Q I r h
  obtain ⟨d, es, rfl, e, ks, q⟩ := h
  obtain ⟨u, rfl, rx⟩ := vals1 r
  obtain rfl : u = .ref d := rx
  obtain ⟨z1, z2, xs, r, m⟩ := dn_get I e ks
  have hl : xs.length = es.length := (Paired.length r).symm
  refine call_len_dictH z1 m (by rw [hl]; rw [sizeLine_eq] at z2; omega) ?_
  rw [hl]
  exact ⟨.int ((es.length : Nat) : Int), H, I.tok _, ⟨_, rfl⟩, q⟩
/-- d.values(): a view -/
def VwO (r d : Addr) : HO := .ext fun h => h.IsValuesView r d
def tVals (P : Program) (w : World) (K : PySem.W.Frag) (te : TE) : TE := fun σ H Q => te σ H fun x H1 => ∃ d es, x = .ref d ∧ H1 d = some (DN P w d es) ∧ KysAt K H1 es ∧ ∀ r, H1 r = none → Q (.ref r) (upd H1 r (VwO r d))
theorem vw_new {P : Program} {w : World} {H : Hp} {h : Heap} {r d : Addr} (v : h.IsValuesView r d) : ObjOk P w H h r (VwO r d) := by
  obtain ⟨o, g, c, dd⟩ := id v
  refine ⟨v, ⟨o, g⟩, ?_⟩
  rintro h1 h2 ⟨o, g, c, dd⟩ k
  exact ⟨o, k o g, c, dd⟩
theorem pe_values {e : Expr} {te : TE} {apos cpos : Pos} (he : PE X e te) (hbase : attributeBase e "values" X.env (eval e X.env) = eval e X.env := by rfl) (hline : (apos.endLine == cpos.line) = true := by rfl) :
    PE X (.Call (.Attribute e "values" apos) [] [] cpos) (tVals X.prog X.w X.K te) := by
  refine ⟨fun pins s σ H Q I h => ?_⟩
  refine wpAny_Call_method (T := "dict") (id := "dict.values") hbase rfl hline F.plainAttrs_dict F.slot_dict_values F.type_dict_values (thn (he.run pins s σ H _ I h) fun u s1 ⟨x, H1, I1, rx, d, es, ex, hd, ks, q⟩ => ?_)
  subst ex
  obtain rfl : u = Value.ref d := rx
  obtain ⟨z1, z2, xs, r, m⟩ := dn_get I1 hd ks
  obtain ⟨o, des, ep, g, x, dd, te, _, nd⟩ := id m
  refine ⟨m.typeIs, fun o' e' => by cases e'; exact ⟨_, g, x.2.1⟩, ?_⟩
  show wpAny _ _ (callWith cpos (.builtin "dict.values") [.ref d] [] []) _ X.xe s1
  refine method_meetsIn F.slot_dict_values F.entry_dict_values rfl (PySem.evalArgs_none ⟨rfl, m.typeIs, F.args_dict_values_1 _, _, meets_dict_values_raw d z1, ⟨des, ep, o, g, x, dd⟩, ?_⟩)
  have hv : (s1.heap.push { cls := .type "dict_values", data := .fields #[.ref d] }).IsValuesView s1.heap.objs.size d := ⟨_, Heap.get?_push_size _ rfl, rfl, rfl⟩
  exact ⟨.ref s1.heap.objs.size, _, I1.laid (t' := s1.toks) (o := VwO s1.heap.objs.size d) (fun b u e => Heap.get?_push_of_some _ e) (Nat.le_refl _) (vw_new hv), rfl, q _ (I1.hok.fresh (Nat.le_refl _))⟩
end
end K88
set_option maxHeartbeats 4000000
/-! list(d.values()), sorted(.., key=f). -/
namespace K88
open PySem PySem.Spec PyProof.Rows L2
/-- a list, a tuple of lists' items, or the values of a dict of rules -/
def SrcAt (P : Program) (w : World) (K : PySem.W.Frag) (H : Hp) (a : Addr) (xs : List V) : Prop := SqL K H a xs ∨ ∃ d es, H a = some (VwO a d) ∧ H d = some (DN P w d es) ∧ KysAt K H es ∧ xs = es.map (·.2.2)
section
variable {X : Cx} {pins : List (Addr × Obj)} {σ : L2.St} {H : Hp} {s : Shared}
theorem vw_get {r d : Addr} (I : Inv X pins σ H s) (e : H r = some (VwO r d)) : s.heap.IsValuesView r d := (show ObjOk X.prog X.w H s.heap r (VwO r d) from I.hok r _ e).1
theorem dn_vals {es : List Ent} {xs : List (NestedKey × Addr × Value)} (r : DnX es xs) : Vals (es.map (·.2.2)) (xs.map (·.2.2)) := by
  induction r with
  | nil => exact .nil
  | cons h t ih => exact .cons h.2.2 ih
theorem dn_acc {es : List Ent} {xs : List (NestedKey × Addr × Value)} {P : Program} {w : World} {des : Array DictEntry} (r : DnX es xs) (te : des.toList = xs.map (entryOfKey (nestedKind P w))) {acc : Array Value}
    (h : ItemsOf (fun i v => ∃ hi : i < des.size, v = des[i].val) acc des.size) : Vals (es.map (·.2.2)) acc.toList := by
  have e : acc.toList = xs.map (·.2.2) := by
    have hs : des.size = xs.length := by rw [← Array.length_toList, te, List.length_map]
    refine List.ext_getElem? fun i => ?_
    by_cases hi : i < acc.size
    · have e1 : acc[i]? = some acc[i] := Array.getElem?_eq_getElem hi
      obtain ⟨hd, ev⟩ := h.2 i _ e1
      rw [Array.getElem?_toList, e1, ev]
      have e2 : des.toList[i]? = some des[i] := by rw [Array.getElem?_toList]; exact Array.getElem?_eq_getElem hd
      rw [te, List.getElem?_map] at e2
      obtain ⟨x, hx, hy⟩ := Option.map_eq_some_iff.mp e2
      rw [List.getElem?_map, hx, ← hy]
      rfl
    · have h1 := h.1
      rw [List.getElem?_eq_none (by rw [Array.length_toList]; omega), List.getElem?_eq_none (by rw [List.length_map]; omega)]
  rw [e]
  exact dn_vals r
theorem src_collect {A : Around} {E : Value → Shared → Prop} {a : Addr} {xs : List V} (hh : A.handled = none) (I : Inv X pins σ H s) (h : SrcAt X.prog X.w X.K H a xs) (hz : xs.length ≤ 1000) :
    wpAny (model X.prog X.w) A (collect (.ref a)) (fun us s1 => Inv X pins σ H s1 ∧ Vals xs us) E s := by
  have hzl : xs.length ≤ sizeLine := Nat.le_trans hz (by decide)
  rcases h with h | ⟨d, es, e, f, ks, rfl⟩
  · obtain ⟨its, rv, pl, _⟩ := I.list h
    refine collect_list pl.isList ⟨I.kept fun b o q => ?_, rv⟩ (by rw [← rv.length]; exact hzl)
    have hlt := Heap.lt_size q
    rw [Heap.get?_update_ne _ _ _ _ (Nat.ne_of_lt hlt), Heap.get?_push_ne _ _ _ (Nat.ne_of_lt hlt)]
    exact q
  · obtain ⟨z1, z2, ys, r, m⟩ := dn_get I f ks
    obtain ⟨o, des, ep, g, x, dd, te, _, nd⟩ := id m
    have hs : des.size = es.length := by rw [← Array.length_toList, te, List.length_map]; exact (Paired.length r).symm
    refine PySem.W.kdu_collect (PySem.KdlSrc.rawValues (r := a) (d := d) (es := des) (ep := ep)) hh ⟨vw_get I e, o, g, x, dd⟩ (by rw [hs]; exact z2) fun h' tk acc hk ha => ⟨I.kept hk, dn_acc r te ha⟩
/-- list(view) -/
def rListVw (P : Program) (w : World) (K : PySem.W.Frag) : List V → Hp → VK → Prop := fun vs H Q => ∃ r d es, vs = [.ref r] ∧ H r = some (VwO r d) ∧ H d = some (DN P w d es) ∧ KysAt K H es ∧ ∀ p, H p = none → Q (.ref p) (upd H p (.lst (es.map (·.2.2))))
theorem call_listVw (hc : X.calm = true) : CallR X (.type "list") (rListVw X.prog X.w X.K) := by
  intro pins s σ H vs us Q I rv h
  obtain ⟨r, d, es, rfl, e, f, ks, q⟩ := h
  obtain ⟨u, rfl, rx⟩ := vals1 rv
  obtain rfl : u = .ref r := rx
  obtain ⟨z1, z2, ys, rr, m⟩ := dn_get I f ks
  obtain ⟨o, des, ep, g, x, dd, te, _, nd⟩ := id m
  have hs : des.size = es.length := by rw [← Array.length_toList, te, List.length_map]; exact (Paired.length rr).symm
  refine PySem.W.kdl_call (PySem.KdlSrc.rawValues (r := r) (d := d) (es := des) (ep := ep)) (I.ok.hd hc) ⟨vw_get I e, o, g, x, dd⟩ (by rw [hs]; exact z2) fun h' tk acc c hk hL ha => ?_
  have hv := dn_acc rr te ha
  exact ⟨.ref s.heap.objs.size, _, I.laid (t' := tk) (o := .lst (es.map (·.2.2))) hk (Nat.le_refl _) ⟨by rw [List.length_map]; exact z2, acc.toList, c, hv, hL⟩, rfl, q _ (I.hok.fresh (Nat.le_refl _))⟩
end
/-! ### sorted by keys -/
def RawO (a : Addr) (ob : Obj) : HO := .ext fun h => h.get? a = some ob
theorem raw_ok {P : Program} {w : World} {H : Hp} {h : Heap} {a : Addr} {ob : Obj} (e : h.get? a = some ob) : ObjOk P w H h a (RawO a ob) := ⟨e, ⟨ob, e⟩, fun _ _ e1 k => k ob e1⟩
/-- a key function's call -/
def KC (X : Cx) (sp : Addr → V → Hp → VK → Prop) : Prop := ∀ (f : Addr) (pins : List (Addr × Obj)) (s : Shared) (σ : L2.St) (H : Hp) (x : V) (u : Value) (Q : VK), Inv X pins σ H s → RelV x u → sp f x H Q →
  wpAny (model X.prog X.w) X.A.in1.in1 (call (.ref f) [u]) (EP X pins σ Q) (fun _ _ => False) s
theorem kc_def {X : Cx} {k : Nat} {f0 : Addr} {sp : Sp} (F : FnR X.prog X.w X.K X.mg X.base CX0 k f0 sp) (hr : Room (k + 2) X.A) : KC X (fun f x H Q => f = f0 ∧ sp [x] H Q E0) := by
  intro f pins s σ H x u Q I r h
  obtain ⟨rfl, h⟩ := h
  refine wpAny_call (codeAny_mono (F X.A.in1.in1 X.stack s H [u] [x] Q E0 hr.in1.in1 I.env0.in1.in1 (.cons r .nil) h) fun r s' hq => ?_)
  cases r with
  | error er => exact False.elim hq
  | ok fl =>
    cases fl with
    | ret v => exact I.after hq
    | next => exact False.elim hq
    | brk => exact False.elim hq
    | cont => exact False.elim hq
theorem vals_each {xs : List V} {us : List Value} (r : Vals xs us) : PySem.W.EachIs (fun u x => RelV x u) us xs := by
  induction r with
  | nil => exact .nil
  | cons h t ih => exact .cons h ih
theorem each_vals : ∀ {us : List Value} {xs : List V}, PySem.W.EachIs (fun u x => RelV x u) us xs → Vals xs us
  | _, _, .nil => .nil
  | _, _, .cons h t => .cons h (each_vals t)
end K88
set_option maxHeartbeats 4000000
/-! sorted(.., key=f), f a def or a lambda. -/
namespace K88
open PySem PySem.Spec PyProof.Rows L2
open PySem.W (AllAlike Sortable dataLe)
section
variable {X : Cx} {pins : List (Addr × Obj)} {σ : L2.St} {H : Hp} {s : Shared}
theorem raw_get {a : Addr} {ob : Obj} (I : Inv X pins σ H s) (e : H a = some (RawO a ob)) : s.heap.get? a = some ob := (show ObjOk X.prog X.w H s.heap a (RawO a ob) from I.hok a _ e).1
/-- the raw object changes -/
theorem raw_put {a : Addr} {ob ob' : Obj} {h' : Heap} {t' : Nat} (I : Inv X pins σ H s) (e : H a = some (RawO a ob)) (hs : Heap.SameBut a s.heap h') (g : h'.get? a = some ob') : Inv X pins σ (upd H a (RawO a ob')) { s with heap := h', toks := t' } :=
  I.write (x := a) (e := a) (by rw [e]; exact True.intro) (.inl rfl) (fun b q hb z => (hs.2 b hb).trans z) ⟨_, g⟩ (raw_ok g)
theorem dpa_snoc {K : PySem.W.Frag} {H : Hp} {v : V} {d : PyData} (h : Dp K H v d) : ∀ {vs : List V} {ds : List PyData}, DpAll K H vs ds → DpAll K H (vs ++ [v]) (ds ++ [d])
  | _, _, .nil => .cons h .nil
  | _, _, .cons a t => .cons a (dpa_snoc h t)
theorem readsAll_each' {h : Heap} : ∀ {us : List Value} {ds : List PyData} {as : List Addr}, ReadsAll h us ds as → PySem.W.EachIs (fun v d => ∃ as, Reads h v d as) us ds
  | _, _, _, .nil => .nil
  | _, _, _, .cons a t => .cons ⟨_, a⟩ (readsAll_each' t)
/-- one list's place is forgotten, another's becomes a list -/
theorem sort_fin {a kS : Addr} {oa ok : Obj} {ys : List V} {h' : Heap} {t' : Nat} {us : List Value} {c : Nat} (I : Inv X pins σ H s) (ea : H a = some (RawO a oa)) (ek : H kS = some (RawO kS ok)) (hne : kS ≠ a)
    (hk0 : X.s_0.heap.objs.size ≤ kS) (hk : ∀ b o, b ≠ a → b ≠ kS → s.heap.get? b = some o → h'.get? b = some o) (hz : ys.length ≤ sizeLine) (rv : Vals ys us) (g : h'.get? a = some (seqObj "list" us.toArray c)) :
    Inv X pins σ (fun b => if b = kS then none else if b = a then some (.lst ys) else H b) { s with heap := h', toks := t' } := by
  have hext : ∀ {b : Addr} {o : HO} {ob : Obj}, H b = some (RawO b ob) → H b = some o → o = RawO b ob := fun h1 h2 => by
    rw [h1] at h2
    exact (Option.some.inj h2).symm
  have nk : ∀ b, H b = none → b ≠ kS := fun b e z => by rw [z, ek] at e; cases e
  have na : ∀ b, H b = none → b ≠ a := fun b e z => by rw [z, ea] at e; cases e
  have ot : ∀ b o, H b = some o → (∀ φ, o ≠ .ext φ) → (if b = kS then none else if b = a then some (HO.lst ys) else H b) = some o := fun b o e n => by
    by_cases h1 : b = kS
    · subst h1
      exact absurd (hext ek e) (n _)
    · by_cases h2 : b = a
      · subst h2
        exact absurd (hext ea e) (n _)
      · rw [if_neg h1, if_neg h2]
        exact e
  refine I.step (g' := s.gens) (d' := s.drawn) (ch := [kS]) (fun b hb => ?_) (fun b o _ _ hc e n => hk b o (na b n) (nk b n) e) (fun b o _ _ hc e n => ⟨o.slots, hk b o (na b n) (nk b n) e⟩) (fun b o hc e n => ?_) (fun b o hc e => ?_)
    (fun b xs e => ot b _ e fun φ z => nomatch z) (fun b o u e => ot b _ e fun φ z => nomatch z) (fun b ps e => ⟨#[], by rw [Array.append_empty]; exact ot b _ e fun φ z => nomatch z⟩) (fun m hm => ?_) (fun b u e => ?_) I.bare
  · obtain rfl : b = kS := by simpa using hb
    refine ⟨.inr hk0, fun z => ?_, fun x c e z => ?_, fun p hp z => ?_⟩
    · exact nk _ I.free z.symm
    · exact nk _ (I.freeC x c e) z
    · exact nk _ (I.pin p hp).2.1 z
  · show (if b = kS then none else if b = a then some (HO.lst ys) else H b) = none
    rw [if_neg (nk b n), if_neg (na b n)]
    exact n
  · have h1 : b ≠ kS := fun z => hc (by simp [z])
    by_cases h2 : b = a
    · subst h2
      exact ⟨_, g⟩
    · exact ⟨o, hk b o h2 h1 e⟩
  · obtain ⟨o, es, ep, ho, r⟩ := hm
    exact ⟨o, es, ep, hk _ o (na _ I.free) (nk _ I.free) ho, r⟩
  · have e : (if b = kS then none else if b = a then some (HO.lst ys) else H b) = some u := e
    by_cases h1 : b = kS
    · rw [if_pos h1] at e
      cases e
    · rw [if_neg h1] at e
      by_cases h2 : b = a
      · rw [if_pos h2] at e
        cases e
        rw [h2]
        exact ⟨hz, us, c, rv, g⟩
      · rw [if_neg h2] at e
        refine (I.hok b u e).stay (fun c v hc q => hk c v ?_ ?_ q) (fun c q => ot c _ q fun φ z => nomatch z) fun c xs q => ot c _ q fun φ z => nomatch z
        · rcases hc with z | z
          · rw [z]; exact h2
          · exact fun y => by rw [y, ea] at z; cases z
        · rcases hc with z | z
          · rw [z]; exact h1
          · exact fun y => by rw [y, ek] at z; cases z
/-- data stays where a thing that is no data changes -/
theorem rd_but {H H' : Hp} {c a : Addr} {u : HO} {φ : Heap → Prop} (e : H c = some (.ext φ)) (k : ∀ b, b ≠ c → H' b = H b) (h : Rd H a u) (hu : ∀ ψ, u ≠ .ext ψ) : Rd H' a u := by
  have ne : ∀ o, H a = some o → (∀ ψ, o ≠ .ext ψ) → a ≠ c := fun o q n z => by
    rw [z, e] at q
    exact n φ (Option.some.inj q).symm
  rcases h with h | ⟨o, h⟩
  · exact .inl ((k a (ne _ h hu)).trans h)
  · exact .inr ⟨o, (k a (ne _ h fun ψ z => nomatch z)).trans h⟩
theorem sql_but {K : PySem.W.Frag} {H H' : Hp} {c a : Addr} {xs : List V} {φ : Heap → Prop} (e : H c = some (.ext φ)) (k : ∀ b, b ≠ c → H' b = H b) (h : SqL K H a xs) : SqL K H' a xs := h.imp (fun q => rd_but e k q fun ψ z => nomatch z) id
theorem sqt_but {K : PySem.W.Frag} {H H' : Hp} {c a : Addr} {xs : List V} {φ : Heap → Prop} (e : H c = some (.ext φ)) (k : ∀ b, b ≠ c → H' b = H b) (h : SqT K H a xs) : SqT K H' a xs := h.imp (fun q => rd_but e k q fun ψ z => nomatch z) id
mutual
theorem dp_but {K : PySem.W.Frag} {H H' : Hp} {c : Addr} {φ : Heap → Prop} (e : H c = some (.ext φ)) (k : ∀ b, b ≠ c → H' b = H b) : ∀ {v : V} {d : PyData}, Dp K H v d → Dp K H' v d
  | _, _, .non => .non
  | _, _, .bl b => .bl b
  | _, _, .int i => .int i
  | _, _, .str x => .str x
  | _, _, .lst h a => .lst (sql_but e k h) (dpa_but e k a)
  | _, _, .tup h a => .tup (sqt_but e k h) (dpa_but e k a)
theorem dpa_but {K : PySem.W.Frag} {H H' : Hp} {c : Addr} {φ : Heap → Prop} (e : H c = some (.ext φ)) (k : ∀ b, b ≠ c → H' b = H b) : ∀ {vs : List V} {ds : List PyData}, DpAll K H vs ds → DpAll K H' vs ds
  | _, _, .nil => .nil
  | _, _, .cons h a => .cons (dp_but e k h) (dpa_but e k a)
end
theorem dpa_length {K : PySem.W.Frag} {H : Hp} : ∀ {vs : List V} {ds : List PyData}, DpAll K H vs ds → vs.length = ds.length
  | _, _, .nil => rfl
  | _, _, .cons _ a => congrArg Nat.succ (dpa_length a)
theorem vals_eachB {β : Type} {vOf : β → V} : ∀ {xs : List β} {us : List Value}, Vals (xs.map vOf) us → PySem.W.EachIs (fun u x => RelV (vOf x) u) us xs
  | [], _, .nil => .nil
  | _ :: _, _, .cons h t => .cons h (vals_eachB t)
theorem each_valsB {β : Type} {vOf : β → V} : ∀ {us : List Value} {xs : List β}, PySem.W.EachIs (fun u x => RelV (vOf x) u) us xs → Vals (xs.map vOf) us
  | _, _, .nil => .nil
  | _, _, .cons h t => .cons h (each_valsB t)
theorem size_upd {h : Heap} {a : Addr} {f : Obj → Obj} : (h.update a f).objs.size = h.objs.size := Heap.size_update ..
open PySem.W in
theorem sort_run {sp : Addr → V → Hp → VK → Prop} {f a : Addr} {β : Type} {xs : List β} {vOf : β → V} {us : List Value} {n : Nat} {kz : β → PyData} {R : Shared → Prop} {E : Value → Shared → Prop} (hc : KC X sp) (hu : X.A.units + 64 < cLine) (hn : H a = none)
    (I : Inv X pins σ (upd H a (RawO a (seqObj "list" us.toArray n))) s) (rv : Vals (xs.map vOf) us) (hz : xs.length ≤ 1000) (hal : AllAlike (xs.map kz)) (hsk : Sortable (xs.map kz)) (hd : ∀ x ∈ xs, (kz x).depth ≤ 8)
    (turn : ∀ x ∈ xs, ∀ (H2 : Hp) (Q : VK), Same H H2 → (∀ v H3, Same H2 H3 → Dp X.K H3 v (kz x) → Q v H3) → sp f (vOf x) H2 Q)
    (h : ∀ s' H', Inv X pins σ H' s' → Same H H' → H' a = some (.lst ((xs.mergeSort (dataLe false kz)).map vOf)) → R s') :
    wpAny (model X.prog X.w) X.A.in1.in1 (ksk_tree a (.ref f) false) (fun fin s' => fin = .done (.ret .none) ∧ R s') E s := by
  have hl : us.length = xs.length := by rw [← rv.length, List.length_map]
  have ho : s.heap.get? a = some (seqObj "list" us.toArray n) := raw_get I upd_same
  have ha : a < s.heap.objs.size := Heap.lt_size ho
  obtain ⟨e1, ho1⟩ : ∃ e1, (s.heap.update a (Obj.mapSeq fun _ => (#[] : Array Value))).get? a = some (seqObj "list" #[] e1) := ⟨_, get?_update_seq ho fun _ => #[]⟩
  have hs1 := Heap.SameBut.update s.heap a (Obj.mapSeq fun _ => (#[] : Array Value))
  have zl : us.length ≤ sizeLine := by rw [hl]; exact Nat.le_trans hz (by decide)
  unfold ksk_tree
  refine wpAny_bind (listItems_at ho rfl ?_)
  refine wpAny_bind (listUpdate_at ho rfl ?_ (by rw [List.size_toArray]; exact zl) (Nat.zero_le _))
  refine wpAny_bind (seqEpoch_at ho1 rfl ?_)
  refine wpAny_bind (wpAny_newTuple ?_ (by show us.length ≤ _; exact zl))
  refine wpAny_bind (wpAny_newList ?_ (Nat.zero_le _))
  refine wpAny_holding ?_
  -- the state at the fold
  have I1 : Inv X pins σ (upd H a (RawO a (seqObj "list" #[] e1))) { s with heap := s.heap.update a (Obj.mapSeq fun _ => (#[] : Array Value)) } := by
    have q := raw_put (t' := s.toks) I upd_same hs1 ho1
    rw [upd_upd] at q
    exact q
  generalize hh1 : s.heap.update a (Obj.mapSeq fun _ => (#[] : Array Value)) = h1 at I1 ho1 hs1 ⊢
  have I2 : Inv X pins σ (upd H a (RawO a (seqObj "list" #[] e1))) { s with heap := h1.push (seqObj "tuple" us.toArray 0) } := I1.kept (t' := s.toks) fun b o q => Heap.get?_push_of_some _ q
  show wpAny _ _ (ksk_rest a (.ref f) false us.toArray e1 (.ref (h1.push (seqObj "tuple" us.toArray 0)).objs.size)) _ _ { s with heap := (h1.push (seqObj "tuple" us.toArray 0)).push (seqObj "list" #[] 0) }
  generalize hh2 : h1.push (seqObj "tuple" us.toArray 0) = h2 at I2 ⊢
  generalize hkk : h2.objs.size = kS
  have hkn : (upd H a (RawO a (seqObj "list" #[] e1))) kS = none := I2.hok.fresh (Nat.le_of_eq hkk)
  have hka : kS ≠ a := fun z => by rw [z, upd_same] at hkn; cases hkn
  have hkH : H kS = none := by rw [upd_ne hka] at hkn; exact hkn
  have hk0 : X.s_0.heap.objs.size ≤ kS := by
    have := I2.sz
    rw [← hkk]
    exact this
  have gk : (h2.push (seqObj "list" #[] 0)).get? kS = some (seqObj "list" #[] 0) := by rw [← hkk]; exact Heap.get?_push_size _ rfl
  have I3 : Inv X pins σ (upd (upd H a (RawO a (seqObj "list" #[] e1))) kS (RawO kS (seqObj "list" #[] 0))) { s with heap := h2.push (seqObj "list" #[] 0) } :=
    I2.laid (t' := s.toks) (fun b o q => Heap.get?_push_of_some _ q) (Nat.le_of_eq hkk) (raw_ok gk)
  have S3 : Same H (upd (upd H a (RawO a (seqObj "list" #[] e1))) kS (RawO kS (seqObj "list" #[] 0))) := ((Same.refl H).nw hn).nw hkn
  unfold ksk_rest
  refine wpAny_bind (wpAny_rule ?_)
  rw [List.forIn_toArray]
  refine wpAny_bind (ksk_fold (fun i s' => ∃ (H' : Hp) (ks : List V) (kA : Array Value) (e : Nat), Inv X pins σ H' s' ∧ Same H H' ∧ H' a = some (RawO a (seqObj "list" #[] e1)) ∧ H' kS = some (RawO kS (seqObj "list" kA e)) ∧ Vals ks kA.toList ∧ DpAll X.K H' ks ((xs.take i).map kz)) us 0 _
    ⟨_, [], #[], 0, I3, S3, by rw [upd_ne hka.symm]; exact upd_same, upd_same, .nil, .nil⟩ ?step ?done)
  case step =>
    rintro j u s' hj ⟨H', ks, kA, e, I', S', ea, ek, rk, dk⟩
    simp only [Nat.zero_add] at dk ⊢
    have hjl : j < xs.length := by rw [← hl]; exact (List.getElem?_eq_some_iff.mp hj).1
    have hx : xs[j]? = some xs[j] := List.getElem?_eq_getElem hjl
    have rx : RelV (vOf xs[j]) u := by
      have q := rv.get (show (xs.map vOf)[j]? = some (vOf xs[j]) by rw [List.getElem?_map, hx] <;> rfl)
      obtain ⟨u', e', r'⟩ := q
      rw [hj] at e'
      cases e'
      exact r'
    have hm : xs[j] ∈ xs := List.getElem_mem hjl
    refine wpAny_bind (wpAny_attempt (wpAny_mono (hc f pins s' σ H' (vOf xs[j]) u (fun v H3 => Same H' H3 ∧ Dp X.K H3 v (kz xs[j])) I' rx (turn _ hm H' _ S' fun v H3 s3 d3 => ⟨s3, d3⟩)) (fun v s2 z => ?_) fun _ _ hF => hF.elim))
    obtain ⟨x, H3, I4, r4, S4, d4⟩ := z
    try dsimp only
    have ek4 : H3 kS = some (RawO kS (seqObj "list" kA e)) := S4 _ _ ek
    have nk2 := raw_get I4 ek4
    have hks : ks.length = j := by
      have q := dpa_length dk
      rw [List.length_map, List.length_take] at q
      omega
    have hkA : kA.size = j := by rw [← Array.length_toList, ← rk.length, hks]
    have s1 := Heap.SameBut.update s2.heap kS (Obj.mapSeq (·.push v))
    obtain ⟨c2, hc2⟩ : ∃ c2, (s2.heap.update kS (Obj.mapSeq (·.push v))).get? kS = some (seqObj "list" (kA.push v) c2) := ⟨_, get?_update_seq nk2 (·.push v)⟩
    have b1 : kA.size ≤ sizeLine := by rw [hkA]; exact Nat.le_trans (Nat.le_of_lt (Nat.lt_of_lt_of_le hjl hz)) (by decide)
    refine wpAny_bind (listUpdate_at nk2 rfl ?_ b1 (Nat.le_trans (Nat.le_of_eq (Array.size_push ..)) (Nat.succ_le_succ b1)))
    have S5 : Same H (upd H3 kS (RawO kS (seqObj "list" (kA.push v) c2))) := (S'.trans S4).mt hkH
    refine wpAny_pure ⟨rfl, upd H3 kS (RawO kS (seqObj "list" (kA.push v) c2)), ks ++ [x], kA.push v, c2, raw_put (t' := s2.toks) I4 ek4 s1 hc2, S5, ?_, upd_same, ?_, ?_⟩
    · rw [upd_ne hka.symm]
      exact S4 _ _ ea
    · rw [show (kA.push v).toList = kA.toList ++ [v] by simp]
      exact rk.append (.cons r4 .nil)
    · have ew : (xs.take (j + 1)).map kz = (xs.take j).map kz ++ [kz xs[j]] := by rw [List.take_add_one, hx, List.map_append]; rfl
      rw [ew]
      exact dpa_but ek4 (fun b hb => upd_ne hb) (dpa_snoc d4 (dpa_mono S4 dk))
  case done =>
    rintro s' ⟨H', ks, kA, e, I', S', ea, ek, rk, dk⟩
    have ew : xs.take (0 + us.length) = xs := List.take_of_length_le (by omega)
    rw [ew] at dk
    have nk := raw_get I' ek
    have na := raw_get I' ea
    have hks : ks.length = xs.length := by rw [dpa_length dk, List.length_map]
    have hkA : kA.size = us.length := by rw [← Array.length_toList, ← rk.length, hks, hl]
    obtain ⟨as, ra⟩ := Dp.readsAll I' _ _ _ dk rk
    have he := readsAll_each' ra
    refine wpAny_bind (listItems_at nk rfl ?_)
    obtain ⟨G, g1, g2⟩ := restrict s'.heap fun b => decide (b ≠ kS)
    have hG : G.get? kS = none := g2 kS (decide_eq_false fun z => z rfl)
    have kp : KeepsBut a G s'.heap := fun b o hb q => by
      by_cases hk : b = kS
      · rw [hk, hG] at q
        cases q
      · rw [← g1 b (decide_eq_true hk)]
        exact q
    refine keyH_end (κ := dataKind s'.heap (xs.map kz)) (h₁ := G) kp hG nk na hka (SortsAt.data he hal hsk fun d hm => ?_) hkA zl fun h3 tk3 c k3 n3 => ?_
    · obtain ⟨x, hx, rfl⟩ := List.mem_map.mp hm
      have := hd x hx
      show X.A.units + 1 + 1 + (kz x).depth < cLine
      omega
    · have ko : KeyedOut false (xs.map kz) us (sortVals (dataKind s'.heap (xs.map kz)) false kA.toList us) := ⟨s'.heap, kA.toList, hal, rfl, he⟩
      have hv := each_valsB (keyedOut_each kz ko (vals_eachB rv))
      have hlen : ((xs.mergeSort (dataLe false kz)).map vOf).length ≤ sizeLine := by
        rw [List.length_map, List.length_mergeSort]
        exact Nat.le_trans hz (by decide)
      have I5 := sort_fin (t' := tk3) I' ea ek hka hk0 (fun b o h1 h2 q => k3 b o h1 (by rw [g1 b (decide_eq_true h2)]; exact q)) hlen hv n3
      refine ⟨rfl, h _ _ I5 (fun b o q => ?_) ?_⟩
      · show (if b = kS then none else if b = a then some (HO.lst _) else H' b) = some o
        rw [if_neg (fun z => by rw [z, hkH] at q; cases q), if_neg (fun z => by rw [z, hn] at q; cases q)]
        exact S' b o q
      · show (if a = kS then none else if a = a then some (HO.lst _) else H' a) = some _
        rw [if_neg hka.symm, if_pos rfl]
/-! ### as a rule -/
def rSortK (X : Cx) (sp : Addr → V → Hp → VK → Prop) : List V → List V → Hp → VK → Prop := fun vs zs H Q => ∃ (a f : Addr) (β : Type) (xs : List β) (vOf : β → V) (kz : β → PyData), vs = [.ref a] ∧ zs = [.ref f] ∧ SrcAt X.prog X.w X.K H a (xs.map vOf) ∧ xs.length ≤ 1000 ∧ AllAlike (xs.map kz) ∧ Sortable (xs.map kz) ∧ (∀ x ∈ xs, (kz x).depth ≤ 8) ∧
  (∀ x ∈ xs, ∀ (H2 : Hp) (Q' : VK), Same H H2 → (∀ v H3, Same H2 H3 → Dp X.K H3 v (kz x) → Q' v H3) → sp f (vOf x) H2 Q') ∧
  ∀ p H', Same H H' → H p = none → H' p = some (.lst ((xs.mergeSort (dataLe false kz)).map vOf)) → Q (.ref p) H'
theorem cr_sortK {sp : Addr → V → Hp → VK → Prop} (hc : KC X sp) (hcalm : X.calm = true) (hu : X.A.units + 64 < cLine) : CallRK X (.builtin "sorted") [Str.ofString "key"] (rSortK X sp) := by
  intro pins s σ H vs zs us ws Q I r rz h
  obtain ⟨a, f, β, xs, vOf, kz, rfl, rfl, src, hz, hal, hsk, hd, turn, q⟩ := h
  obtain rfl := Vals.ref1 r
  obtain rfl := Vals.ref1 rz
  have zl : (xs.map vOf).length ≤ sizeLine := by rw [List.length_map]; exact Nat.le_trans hz (by decide)
  show wpAny _ _ (call (.builtin "sorted") [.ref a] [(Str.ofString "key", .ref f)]) _ _ _
  refine call_function_entry_kw kind_sorted plain_sorted entry_sorted (ksk_s1 _ _) ?_
  unfold Builtin.«sorted»
  refine wpAny_bind (m := checkCount "sorted" 1 1 _) (wpAny_pure ?_)
  refine wpAny_bind (wpAny_mono (src_collect (A := X.A.in1) (I.ok.hd hcalm) I src (by rw [List.length_map]; exact hz)) (fun us s1 z => ?_) fun _ _ z => z)
  obtain ⟨I1, rv⟩ := z
  refine wpAny_bind (wpAny_newList ?_ (by rw [← rv.length]; exact zl))
  have hn : H s1.heap.objs.size = none := I1.hok.fresh (Nat.le_refl _)
  have g : (s1.heap.push (seqObj "list" us.toArray 0)).get? s1.heap.objs.size = some (seqObj "list" us.toArray 0) := Heap.get?_push_size _ rfl
  have I2 : Inv X pins σ (upd H s1.heap.objs.size (RawO s1.heap.objs.size (seqObj "list" us.toArray 0))) { s1 with heap := s1.heap.push (seqObj "list" us.toArray 0) } := I1.laid (t' := s1.toks) (fun b o q => Heap.get?_push_of_some _ q) (Nat.le_refl _) (raw_ok g)
  show wpAny _ _ _ _ _ { s1 with heap := s1.heap.push (seqObj "list" us.toArray 0) }
  refine wpAny_bind (wpAny_holding (wpAny_call_entry_kw slot_list_sort ⟨_, g, rfl⟩ entry_list_sort ?_ (ksk_l1 _ _)))
  rw [ksk_t1]
  refine wpAny_mono (sort_run hc hu hn I2 rv hz hal hsk hd turn (R := fun s' => EP X pins σ Q (.ref s1.heap.objs.size) s') fun s' H' I' S' e => ⟨.ref s1.heap.objs.size, H', I', rfl, q _ _ S' hn e⟩) (fun fin s' z => ?_) fun _ _ z => z
  obtain ⟨rfl, z⟩ := z
  exact ⟨_, rfl, wpAny_pure ⟨_, rfl, z⟩⟩
end
end K88
set_option maxHeartbeats 4000000
/-! A dict of rules by a comprehension (after HandS.DictComp's proof, turned to this kind of dict). -/
namespace K88
open PySem PySem.Spec PyProof.Rows L2
section
variable {X : Cx}
/-- {k: v for target in iter}, keys pairs of a sort and a place: D the new dict -/
def tDcN (P : Program) (w : World) (K : PySem.W.Frag) (wi : TI) (g : TG) (tt : TT) (tk tv : TE) (vs : List Nat) : TE := fun σ H Q => wi σ H fun J H1 => ∀ D, H1 D = none → ∃ W : Nat → Nat → Hp → Prop, (∃ m, W 0 m (upd H1 D (DN P w D []))) ∧ ∀ i m H, W i m H →
  (J.stop i H ∧ Q (.ref D) H) ∨ (J.go i H ∧ ∃ Nx : Hp → Prop, (∀ H', Nx H' → ∃ m', m' < m ∧ W (i + 1) m' H') ∧ ∀ x H', J.yld i H x H' → g x (wipe σ vs) H' fun σ2 H2 => wipe σ2 vs = wipe σ vs ∧ tt σ2 H2 fun b H3 =>
    if b = true then tk σ2 H3 fun y H4 => tv σ2 H4 fun z H5 => ∃ es b k, y = .ref b ∧ H5 D = some (DN P w D es) ∧ KysAt K H5 es ∧ es.length < sizeLine ∧ KyAt K H5 b k ∧ Nx (upd H5 D (DN P w D (putN es k b z))) else Nx H3)
theorem dc_coreN {pins : List (Addr × Obj)} {s : Shared} {σ : L2.St} {H : Hp} {Q : VK} {kx vx tg iter : Expr} {ifs : List Expr} {scope : Scope} {own : List (Str × Nat)} {pos pos' : Pos} {wi : TI} {g : TG} {tt : TT} {tk tv : TE} {use : Option (Value → Sem Unit)} {Qf : Value → Shared → Prop}
    (hu : X.A.units + 64 < cLine) (hc : X.calm = true) (hN : X.N.Nodup) (I : L2.Inv X pins σ H s) (hi : PI X tg iter wi) (ok : BlkOk X.N X.env.scope scope own)
    (hg : ∀ (s : Shared) (H : Hp) (C : Addr) (cl : List (Str × Addr)) (fp : List Addr), PG (X.blk s H scope (compEnvC scope cl C X.env) fp) tg g) (ht : ∀ (s : Shared) (H : Hp) (C : Addr) (cl : List (Str × Addr)) (fp : List Addr), PTs (X.blk s H scope (compEnvC scope cl C X.env) fp) ifs tt)
    (hk : ∀ (s : Shared) (H : Hp) (C : Addr) (cl : List (Str × Addr)) (fp : List Addr), PE (X.blk s H scope (compEnvC scope cl C X.env) fp) kx tk)
    (he : ∀ (s : Shared) (H : Hp) (C : Addr) (cl : List (Str × Addr)) (fp : List Addr), PE (X.blk s H scope (compEnvC scope cl C X.env) fp) vx tv) (hs : ∀ x, foldedSetIterable iter X.env x = pure x)
    (h : tDcN X.prog X.w X.K wi g tt tk tv (own.map (·.2)) σ H Q)
    (hRR : ∀ D C s' m H', L2.Inv X pins σ H' s' → Q (.ref D) H' → s'.heap.Ns C m → FpOk X pins H' C → compPost (model X.prog X.w) X.A X.xe use Qf (.ref D) C (.ok .next) s') :
    wpAny (model X.prog X.w) X.A (comprehension (.DictComp kx vx [⟨tg, iter, ifs, 0⟩] scope pos) scope X.env pos' newDict false (eval iter X.env) use) Qf X.xe s := by
  have hfree : ∀ y ∈ scope.names, y.2 = .free → ∃ c, X.env.cells.lookup y.1 = some c := fun y hy e => by
    rcases ok.free y hy e with k | k
    · exact I.ok.has _ (.inl k)
    · exact I.ok.has _ (.inr k)
  refine wpAny_comprehension_free (use := use) rfl hs (closure_ok hfree) ok.kind (fun y hy e => by rw [ok.uniq y hy, e])
    (thn (hi.run pins s σ H _ I h) fun xv s1 hx => thn hx fun itv s2 h2 => ?_)
  obtain ⟨it, fp, tn, J, H2, e, I2, T, st2, f2, q⟩ := h2
  subst e
  refine wpAny_newObj_type (newEnv_comp ?_)
  generalize hD : s2.heap.objs.size = D
  have hDn : H2 D = none := I2.hok.fresh (Nat.le_of_eq hD)
  obtain ⟨W, ⟨m0, w0⟩, turn⟩ := q D hDn
  -- the new list
  generalize hs3 : ({ s2 with heap := s2.heap.push { cls := .type "dict", data := .dict #[] } } : Shared) = s3
  have I3 : L2.Inv X pins σ (upd H2 D (DN X.prog X.w D [])) s3 := by
    rw [← hs3]
    refine I2.laid (t' := s2.toks) (fun b o e => Heap.get?_push_of_some _ e) (Nat.le_of_eq hD) ?_
    rw [← hD]
    exact dn_empty s2.heap I2.big
  have h3 : s3.heap = s2.heap.push { cls := .type "dict", data := .dict #[] } := by rw [← hs3]
  have sz : ∀ b ∈ fp, b < s2.heap.objs.size := fun b hb => by
    obtain ⟨o, e, _⟩ := T.obj _ _ st2 b hb
    exact Heap.lt_size e
  have f3 : ∀ b ∈ fp, FpOk X pins (upd H2 D (DN X.prog X.w D [])) b ∧ b < s3.heap.objs.size := fun b hb => by
    have hlt := sz b hb
    refine ⟨⟨?_, (f2 b hb).2⟩, by rw [h3, Heap.size_push]; exact Nat.lt_succ_of_lt hlt⟩
    rw [upd_ne (by rw [← hD]; exact Nat.ne_of_lt hlt)]
    exact (f2 b hb).1
  have st3 : tn 0 s3.heap := T.keep _ _ _ st2 fun b _ o e => by rw [h3]; exact Heap.get?_push_of_some _ e
  have I4 := block_start I3 ok hN f3
  have pg := hg s3 (upd H2 D (DN X.prog X.w D [])) s3.heap.objs.size (cellsFrom (s3.heap.objs.size + 1) scope.names (cloFrom X.env.cells scope.names [])) fp
  have pt := ht s3 (upd H2 D (DN X.prog X.w D [])) s3.heap.objs.size (cellsFrom (s3.heap.objs.size + 1) scope.names (cloFrom X.env.cells scope.names [])) fp
  have pk := hk s3 (upd H2 D (DN X.prog X.w D [])) s3.heap.objs.size (cellsFrom (s3.heap.objs.size + 1) scope.names (cloFrom X.env.cells scope.names [])) fp
  have pe := he s3 (upd H2 D (DN X.prog X.w D [])) s3.heap.objs.size (cellsFrom (s3.heap.objs.size + 1) scope.names (cloFrom X.env.cells scope.names [])) fp
  show codeAny _ _ (.compStart (.DictComp kx vx [⟨tg, iter, ifs, 0⟩] scope pos) 0 (.ref it) (.ref D) (compEnvC scope (cellsFrom (s3.heap.objs.size + 1) scope.names (cloFrom X.env.cells scope.names [])) s3.heap.objs.size X.env)) (compPost (model X.prog X.w) X.A X.xe use Qf (.ref D) s3.heap.objs.size) { s3 with heap := pushCells (s3.heap.push { cls := .type "dict", data := .dict #[] }) scope.names }
  have nfp : ∀ b ∈ fp, (upd H2 D (DN X.prog X.w D [])) b = none := fun b hb => (f3 b hb).1.1
  generalize hce : compEnvC scope (cellsFrom (s3.heap.objs.size + 1) scope.names (cloFrom X.env.cells scope.names [])) s3.heap.objs.size X.env = ce at I4 pg pt pk pe ⊢
  have cL : ce.locals = s3.heap.objs.size := by subst hce; rfl
  generalize hH3 : upd H2 D (DN X.prog X.w D []) = H3 at I3 I4 pg pt pk pe w0 nfp f3
  generalize hs4 : ({ s3 with heap := pushCells (s3.heap.push { cls := .type "dict", data := .dict #[] }) scope.names } : Shared) = s4 at I4 ⊢
  have st4 : tn 0 s4.heap := T.keep _ _ _ st3 fun b _ o e => by rw [← hs4]; exact pushCells_keeps _ _ _ _ (Heap.get?_push_of_some _ e)
  have stat : ∀ {σ' : L2.St} {H' : Hp} {s' : Shared}, L2.Inv (X.blk s3 H3 scope ce fp) [] σ' H' s' → (∀ b ∈ fp, H' b = none) → ∀ b ∈ fp, FpOk (X.blk s3 H3 scope ce fp) [] H' b := fun {σ' H' s'} I' hn b hb =>
    ⟨hn b hb, (I'.ok.exf b hb).1, I'.ok.exfs b hb, .inl hb, fun x c e => (I'.ok.exf b hb).2 x c e, fun p hp => absurd (show p ∈ ([] : List (Addr × Obj)) ++ [] from hp) (by simp)⟩
  have loop : codeAny (model X.prog X.w) X.A (.compLoop (.DictComp kx vx [⟨tg, iter, ifs, 0⟩] scope pos) 0 (.ref it) (.ref D) ce) (compPost (model X.prog X.w) X.A X.xe use Qf (.ref D) s3.heap.objs.size) s4 := by
    refine compLoop_anyD (fun n s' => ∃ i H', L2.Inv (X.blk s3 H3 scope ce fp) [] (wipe σ (own.map (·.2))) H' s' ∧ tn i s'.heap ∧ (∀ b ∈ fp, H' b = none) ∧ W i n H') ?_ m0 ⟨0, H3, I4, st4, nfp, w0⟩
    rintro n s5 ⟨i, H5, I5, st5, n5, w5⟩
    rcases turn i n H5 w5 with ⟨stop, qq⟩ | ⟨go, Nx, hNx, step⟩
    · have td := T.done (X.blk s3 H3 scope ce fp) rfl rfl rfl hc i [] s5 _ H5 (fun _ _ => False) I5 (stat I5 n5) st5 stop
      refine thnF td fun r s6 ⟨hr, I6⟩ => ?_
      subst hr
      -- back in the def's context
      have I7 : L2.Inv X pins σ H5 s6 := I3.call' (ch := fp) I6.os I6.base I6.hok I6.bare fun b hb => ⟨(f3 b hb).1.2.2.2.1, (f3 b hb).1.2.1, (f3 b hb).1.2.2.2.2.1, (f3 b hb).1.2.2.2.2.2⟩
      have nC : H5 s3.heap.objs.size = none := by
        have z : H5 ce.locals = none := I6.free
        rw [cL] at z
        exact z
      obtain ⟨m, hn, _⟩ := I6.loc
      have hn : s6.heap.Ns ce.locals m := hn
      rw [cL] at hn
      exact hRR D s3.heap.objs.size s6 m H5 I7 qq hn (I3.fpOk (Nat.le_refl _) nC)
    · have ti := T.item (X.blk s3 H3 scope ce fp) rfl rfl rfl hc i [] s5 _ H5 (fun _ _ => False) I5 (stat I5 n5) st5 go
      refine thnF ti fun r s6 ⟨u, hr, h6⟩ => ?_
      subst hr
      refine thnF h6 fun _ s7 ⟨x, H7, I7, r7, y7, st7, n7⟩ => ?_
      have I7' := I7.pinned (stat I7 n7) (T.obj _ _ st7)
      refine thnF (pg.run _ s7 _ H7 x u _ I7' r7 (step x H7 y7)) fun _ s8 ⟨σ8, H8, I8, hw8, q8⟩ => ?_
      refine thnF (pt.run _ s8 σ8 H8 _ I8 q8) fun b s9 ⟨H9, I9, q9⟩ => ?_
      -- the turn's end
      have fin : ∀ {s' : Shared} {H' : Hp}, L2.Inv (X.blk s3 H3 scope ce fp) ([] ++ pinsAt fp s7.heap) σ8 H' s' → Nx H' → ∃ m, m < n ∧ ∃ i H', L2.Inv (X.blk s3 H3 scope ce fp) [] (wipe σ (own.map (·.2))) H' s' ∧ tn i s'.heap ∧ (∀ b ∈ fp, H' b = none) ∧ W i m H' := fun {s' H'} I' nx => by
        obtain ⟨m', hm, w'⟩ := hNx H' nx
        have pin' : ∀ b ∈ fp, ∀ o, s7.heap.get? b = some o → s'.heap.get? b = some o ∧ H' b = none := fun b hb o e =>
          let z := I'.pin (b, o) (List.mem_append_right _ (List.mem_append_right _ (mem_pinsAt hb e)))
          ⟨z.1, z.2.1⟩
        have hl : (wipe σ (own.map (·.2))).length = σ8.length := by rw [← hw8, wipe_length]
        refine ⟨m', hm, i + 1, H', (I'.unpinned (pins := [])).weak hl (fun j v e => ?_), T.keep _ _ _ st7 fun b hb o e => (pin' b hb o e).1, fun b hb => ?_, w'⟩
        · rw [← hw8] at e
          exact (wipe_some e).1
        · obtain ⟨o, e, _⟩ := T.obj _ _ st7 b hb
          exact (pin' b hb o e).2
      cases b with
      | false =>
        simp only [Bool.false_eq_true, if_false] at q9 ⊢
        exact fin I9 q9
      | true =>
        simp only [if_true] at q9 ⊢
        refine thnF (pk.run _ s9 σ8 H9 _ I9 q9) fun z s10 ⟨yk, H10, I10, r10, q10⟩ => ?_
        refine thnF (pe.run _ s10 σ8 H10 _ I10 q10) fun z2 s11 ⟨yv, H11, I11, r11, es, b, k, ek, hD11, ks11, hz11, kb11, nx⟩ => ?_
        subst ek
        obtain rfl : z = Value.ref b := r10
        exact dn_dictSet (X := X.blk s3 H3 scope ce fp) hu I11 hD11 ks11 hz11 kb11 r11 fun s12 I12 => fin I12 nx
  exact codeAny_compStart_dict loop (T.self X.A 0 _ _ _ st4 loop)
/-- as a value -/
theorem pe_dcN {kx vx tg iter : Expr} {ifs : List Expr} {scope : Scope} {own : List (Str × Nat)} {pos : Pos} {wi : TI} {g : TG} {tt : TT} {tk tv : TE} (hu : X.A.units + 64 < cLine) (hc : X.calm = true) (hN : X.N.Nodup) (hi : PI X tg iter wi) (ok : BlkOk X.N X.env.scope scope own)
    (hg : ∀ (s : Shared) (H : Hp) (C : Addr) (cl : List (Str × Addr)) (fp : List Addr), PG (X.blk s H scope (compEnvC scope cl C X.env) fp) tg g) (ht : ∀ (s : Shared) (H : Hp) (C : Addr) (cl : List (Str × Addr)) (fp : List Addr), PTs (X.blk s H scope (compEnvC scope cl C X.env) fp) ifs tt)
    (hk : ∀ (s : Shared) (H : Hp) (C : Addr) (cl : List (Str × Addr)) (fp : List Addr), PE (X.blk s H scope (compEnvC scope cl C X.env) fp) kx tk)
    (he : ∀ (s : Shared) (H : Hp) (C : Addr) (cl : List (Str × Addr)) (fp : List Addr), PE (X.blk s H scope (compEnvC scope cl C X.env) fp) vx tv) (hs : ∀ x, foldedSetIterable iter X.env x = pure x := by intro _; rfl) :
    PE X (.DictComp kx vx [⟨tg, iter, ifs, 0⟩] scope pos) (tDcN X.prog X.w X.K wi g tt tk tv (own.map (·.2))) := by
  refine ⟨fun pins s σ H Q I h => ?_⟩
  rw [arm_eval_DictComp]
  refine dc_coreN hu hc hN I hi ok hg ht hk he hs h fun D C s' m H' I' q hn f => ⟨m, hn, fun h'' sb => ?_⟩
  obtain ⟨f0, f1, f2, f3, f4, f5⟩ := f
  exact ⟨.ref D, H', I'.turned (t' := s'.toks) (fun b o hb e => (sb.2 b hb).trans e) f0 f1 f3 f4 f5, rfl, q⟩
end
end K88
set_option maxHeartbeats 4000000
/-! == of two dicts of rules. -/
namespace K88
open PySem PySem.Spec PyProof.Rows L2
section
variable {prog : Program} {w : World} {A : Around} {E : Value → Shared → Prop} {s : Shared} {KT : Type} [DecidableEq KT] {knd : HeapKind prog w KT}
theorem same_pairsH {nm : String} {a b : Addr} {xa xb : List (KT × Addr × Value)} {Q : Bool → Shared → Prop} (hu : knd.room A) (ha : (a == sysModules) = false) (hb : (b == sysModules) = false) (da : s.heap.DictOfH knd a xa) (db : s.heap.DictOfH knd b xb) (hl : xa.length = xb.length)
    (hits : ∀ x ∈ xa, ∃ p : Addr × Value, (x.1, p) ∈ xb ∧ SeqAt.EqAt A s x.2.2 p.2 true) (h : Q true s) : wpAny (model prog w) A (Builtin.Dict.samePairs nm a b) Q E s := by
  obtain ⟨oa, es, ep, hoa, _, hda, hea, hia, hna⟩ := da
  obtain ⟨ob, es', ep', hob, _, hdb, heb, hib, hnb⟩ := db
  have hsa : es.size = xa.length := size_of_entries hea
  have hsb : es'.size = xb.length := size_of_entries heb
  unfold Builtin.Dict.samePairs Builtin.Dict.showsAll
  rw [if_neg (show ¬ (a == sysModules) = true by rw [ha]; exact Bool.false_ne_true), if_neg (show ¬ (b == sysModules) = true by rw [hb]; exact Bool.false_ne_true)]
  refine wpAny_bind (wpAny_pure (wpAny_bind (wpAny_pure ?_)))
  refine wpAny_bind (wpAny_dictEntries hoa hda ?_)
  dsimp only
  refine wpAny_bind (wpAny_dictEntries hob hdb ?_)
  have hsz : es.size = es'.size := by omega
  rw [if_neg (by rw [hsz]; simp)]
  refine wpAny_bind (wpAny_dictEpoch hoa hda ?_)
  refine wpAny_bind ?_
  rw [Std.Legacy.Range.forIn_eq_forIn_range']
  simp only [Std.Legacy.Range.size, Nat.sub_zero, Nat.add_sub_cancel, Nat.div_one]
  refine wpAny_forIn_list _ (fun rest q s' => s' = s ∧ q = (none, ()) ∧ ∃ i, rest = List.range' i (es.size - i) ∧ i ≤ es.size) _ ?_ ?_ _ _ ⟨rfl, rfl, 0, by simp, Nat.zero_le _⟩
  · rintro x rest q s' ⟨rfl, rfl, i, hr, hi⟩
    have hlt : i < es.size := by
      rcases Nat.lt_or_ge i es.size with h | h
      · exact h
      · rw [Nat.sub_eq_zero_of_le h] at hr; simp at hr
    obtain ⟨rfl, hrest⟩ : x = i ∧ rest = List.range' (i + 1) (es.size - (i + 1)) := by
      have e : es.size - i = (es.size - (i + 1)) + 1 := by omega
      rw [e, List.range'_succ] at hr
      injection hr with h1 h2
      exact ⟨h1, h2⟩
    refine wpAny_bind (wpAny_dictEntries hoa hda ?_)
    rw [Array.getElem?_eq_getElem hlt]
    have e1 := entry_at hea x
    rw [Array.getElem?_eq_getElem hlt] at e1
    obtain ⟨y, hy, ey⟩ := Option.map_eq_some_iff.mp e1.symm
    have hm : y ∈ xa := List.mem_of_getElem? hy
    obtain ⟨p, hp, he⟩ := hits y hm
    obtain ⟨j, hj⟩ := List.mem_iff_getElem?.mp hp
    show wpAny _ _ (holding [es[x].key, es[x].val] _ >>= _) _ _ _
    rw [← ey]
    refine wpAny_bind (wpAny_holding (wpAny_bind ?_))
    show wpAny _ _ (dictFind b (.ref y.2.1) (knd.hash y.1)) _ _ _
    refine wpAny_dictFind_heap hu (hia y hm) hob hdb heb hib hnb (fun z => absurd hj (z j p)) fun i p' hi' => ?_
    have e2 := entry_at heb i
    rw [hi'] at e2
    have ep : p' = p := by
      have eij : i = j := idxH_unique hnb hi' hj
      rw [eij, hj] at hi'
      exact (congrArg (fun z => z.2) (Option.some.inj hi')).symm
    refine wpAny_bind (wpAny_dictEntries hob hdb ?_)
    rw [e2]
    subst ep
    refine wpAny_holding (he prog w _ _ ?_)
    show wpAny _ _ (if (!true) = true then _ else _) _ _ _
    rw [if_neg (by decide)]
    refine wpAny_bind (wpAny_dictEpoch hoa hda ?_)
    rw [if_neg (by simp)]
    exact wpAny_pure ⟨rfl, rfl, x + 1, hrest, hlt⟩
  · rintro q s' ⟨rfl, rfl, i, hr, hi⟩
    exact wpAny_pure h
theorem rc_dictsH {a b : Addr} {xa xb : List (KT × Addr × Value)} (hk : knd.room A.in1) (ha : (a == sysModules) = false) (hb : (b == sysModules) = false) (da : s.heap.DictOfH knd a xa) (db : s.heap.DictOfH knd b xb) (hu : A.units < cLine) (hl : xa.length = xb.length)
    (hits : ∀ x ∈ xa, ∃ p : Addr × Value, (x.1, p) ∈ xb ∧ SeqAt.EqAt A.in1 s x.2.2 p.2 true) (Q : Value → Shared → Prop) (h : Q (.bool true) s) : wpAny (model prog w) A (richCompare .Eq (.ref a) (.ref b)) Q E s := by
  refine wpAny_richCompare_same_room (op := .Eq) da.typeIs db.typeIs PySem.F.slot_dict_eq (wpAny_call_entry PySem.F.slot_dict_eq da.typeIs PySem.F.entry_dict_eq ?_ (PySem.F.args_dict_eq_2 _ _)) hu
  show wpAny _ _ (Builtin.Dict.dictSlotArgs "__eq__" ⟨[.ref a, .ref b], []⟩ >>= _) _ _ s
  refine wpAny_bind ?_
  unfold Builtin.Dict.dictSlotArgs
  refine wpAny_bind (wpAny_notOrdered_dict da.typeIs ?_)
  show wpAny _ _ (pure (Value.ref a, Value.ref b)) _ _ s
  refine wpAny_pure ?_
  refine wpAny_bind (wpAny_isInstance (T := "dict") db.typeIs PySem.F.sub_dict_dict ?_)
  simp only [Bool.not_true, Bool.false_eq_true, if_false]
  refine wpAny_bind (wpAny_pure (wpAny_bind (wpAny_pure ?_)))
  refine wpAny_bind (same_pairsH hk ha hb da db hl hits ?_)
  refine wpAny_pure ⟨_, rfl, ?_, ?_⟩
  · exact fun x => nomatch x
  · simpa using h
end
/-! ### as a rule -/
def DDn (P : Program) (w : World) (K : PySem.W.Frag) : Eqv := fun x y H => ∃ a b es fs, x = .ref a ∧ y = .ref b ∧ H a = some (DN P w a es) ∧ H b = some (DN P w b fs) ∧ KysAt K H es ∧ KysAt K H fs ∧ es.length = fs.length ∧
  ∀ e ∈ es, ∃ f ∈ fs, f.1 = e.1 ∧ ∃ d, Dp K H e.2.2 d ∧ Dp K H f.2.2 d ∧ SeqAt.shaped d = true ∧ PyData.eqv d d = true
theorem dnx_mem {es : List Ent} {xs : List (NestedKey × Addr × Value)} (r : DnX es xs) : ∀ e ∈ es, ∃ x ∈ xs, x.1 = nk e.1 ∧ x.2.1 = e.2.1 ∧ RelV e.2.2 x.2.2 := by
  induction r with
  | nil => intro e he; cases he
  | @cons e x es xs h t ih =>
    intro e' he
    rcases List.mem_cons.mp he with rfl | he
    · exact ⟨x, List.mem_cons_self .., h⟩
    · obtain ⟨y, hy, q⟩ := ih e' he
      exact ⟨y, List.mem_cons_of_mem _ hy, q⟩
theorem dnx_mem' {es : List Ent} {xs : List (NestedKey × Addr × Value)} (r : DnX es xs) : ∀ x ∈ xs, ∃ e ∈ es, x.1 = nk e.1 ∧ x.2.1 = e.2.1 ∧ RelV e.2.2 x.2.2 := by
  induction r with
  | nil => intro e he; cases he
  | @cons e x es xs h t ih =>
    intro e' he
    rcases List.mem_cons.mp he with rfl | he
    · exact ⟨e, List.mem_cons_self .., h⟩
    · obtain ⟨y, hy, q⟩ := ih e' he
      exact ⟨y, List.mem_cons_of_mem _ hy, q⟩
theorem rcG_dn {X : Cx} {n : Nat} : RcG X n (DDn X.prog X.w X.K) := by
  intro A pins s σ H x y u v sb I rx ry d
  obtain ⟨a, b, es, fs, rfl, rfl, ea, eb, ka, kb, hl, hp⟩ := d
  cases rx
  cases ry
  obtain ⟨za, _, xa, ra, ma⟩ := dn_get I ea ka
  obtain ⟨zb, _, xb, rb, mb⟩ := dn_get I eb kb
  have hu := sb.room.units
  refine rc_dictsH (show A.units + 1 + 8 < cLine by omega) za zb ma mb sb.room.units0 (by rw [← Paired.length ra, ← Paired.length rb]; exact hl) (fun x hx => ?_) _ ⟨rfl, H, I, Ext.rfl'⟩
  obtain ⟨e, he, e1, e2, e3⟩ := dnx_mem' ra x hx
  obtain ⟨f, hf, f1, d, d1, d2, sh, ev⟩ := hp e he
  obtain ⟨y, hy, y1, y2, y3⟩ := dnx_mem rb f hf
  refine ⟨y.2, ?_, ?_⟩
  · rw [e1, ← f1, ← y1]
    exact hy
  · obtain ⟨as, r1⟩ := Dp.reads I d _ _ d1 e3
    obtain ⟨bs, r2⟩ := Dp.reads I d _ _ d2 y3
    have q := SeqAt.eqAt_reads d d A.in1 s _ _ as bs r1 r2 (SeqAt.canLay_of_shaped sh) (SeqAt.canLay_of_shaped sh) (SeqAt.room_of_shaped sh (by have := sb.room.un; show A.units + 1 + 64 < cLine; omega))
    rw [ev] at q
    exact q
end K88
set_option maxHeartbeats 4000000
/-! Walks over a list or a tuple; a def's promise as FnOk. -/
namespace K88
open PySem PySem.Spec PyProof.Rows L2
theorem pi_or {X : Cx} {tg e : Expr} {w1 w2 : TI} (h1 : PI X tg e w1) (h2 : PI X tg e w2) : PI X tg e (fun σ H R => w1 σ H R ∨ w2 σ H R) := by
  refine ⟨fun pins s σ H R I h => ?_⟩
  rcases h with h | h
  · exact h1.run pins s σ H R I h
  · exact h2.run pins s σ H R I h
theorem ix_tupK {X : Cx} {K : PySem.W.Frag} (h : X.K = K) : IxR X (rIxT K) := by
  subst h
  exact ix_tup
section
variable {CX : CXT} {P : Program} {w : World} {K : PySem.W.Frag} {mg : Str → Option Value} {base : Heap} {N : List Str} {q : Str} {sc : Scope} {f : Addr} {cd : Value} {A : Around} {outer : List Env} {s : Shared} {H : Hp} {E : XK}
theorem cx_P : (cxOf CX P w K mg base N q sc f cd A outer s H E).prog = P := rfl
theorem cx_w : (cxOf CX P w K mg base N q sc f cd A outer s H E).w = w := rfl
end
theorem paired_get {α β : Type} {F : α → β → Prop} : ∀ {l : List α} {m : List β} {i : Nat} {x : α}, Paired F l m → l[i]? = some x → ∃ y, m[i]? = some y ∧ F x y
  | _, _, _, _, .nil, h => by simp at h
  | _, _, 0, _, .cons r _, h => by simp at h; exact ⟨_, rfl, h ▸ r⟩
  | _, _, i + 1, _, .cons _ t, h => by
    obtain ⟨y, e, q⟩ := paired_get (i := i) t (by simpa using h)
    exact ⟨y, by simpa using e, q⟩
theorem paired_snoc {α β : Type} {F : α → β → Prop} {x : α} {y : β} (h : F x y) : ∀ {l : List α} {m : List β}, Paired F l m → Paired F (l ++ [x]) (m ++ [y])
  | _, _, .nil => .cons h .nil
  | _, _, .cons r t => .cons r (paired_snoc h t)
theorem paired_mem {α β : Type} {F : α → β → Prop} : ∀ {l : List α} {m : List β}, Paired F l m → ∀ x ∈ l, ∃ y ∈ m, F x y
  | _, _, .nil, _, hx => nomatch hx
  | _, _, .cons (a := a) (b := b) r t, x, hx => by
    rcases List.mem_cons.mp hx with rfl | hx
    · exact ⟨b, List.mem_cons_self .., r⟩
    · obtain ⟨y, hy, q⟩ := paired_mem t x hx
      exact ⟨y, List.mem_cons_of_mem _ hy, q⟩
theorem paired_mem' {α β : Type} {F : α → β → Prop} : ∀ {l : List α} {m : List β}, Paired F l m → ∀ y ∈ m, ∃ x ∈ l, F x y
  | _, _, .nil, _, hx => nomatch hx
  | _, _, .cons (a := a) (b := b) r t, y, hy => by
    rcases List.mem_cons.mp hy with rfl | hy
    · exact ⟨a, List.mem_cons_self .., r⟩
    · obtain ⟨x, hx, q⟩ := paired_mem' t y hy
      exact ⟨x, List.mem_cons_of_mem _ hx, q⟩
theorem putN_new {es : List Ent} {k : Ky} (h : ∀ e ∈ es, e.1 ≠ k) (b : Addr) (v : V) : putN es k b v = es ++ [(k, b, v)] := by
  unfold putN
  rw [if_neg]
  intro z
  obtain ⟨e, he, q⟩ := List.any_eq_true.mp z
  exact h e he (of_decide_eq_true q)
theorem ix_listK {X : Cx} {K : PySem.W.Frag} (h : X.K = K) : IxR X (rIxL K) := by
  subst h
  exact ix_list
/-- a list or a tuple -/
def SqX (K : PySem.W.Frag) (H : Hp) (p : Addr) (xs : List V) : Prop := SqL K H p xs ∨ SqT K H p xs
theorem SqX.mono {K : PySem.W.Frag} {H H' : Hp} {p : Addr} {xs : List V} (h : SqX K H p xs) (e : Same H H') : SqX K H' p xs := h.imp (fun q => SqL.ext q e) fun q => SqT.ext q e
theorem walk_sq {K : PySem.W.Frag} {H : Hp} {p : Addr} {xs : List V} (h : SqX K H p xs) : ∃ (J : It) (G : Hp → Prop), Walk J xs.length G (YAt xs) ∧ (∀ H', Same H H' → G H') ∧
    ∀ (te : TE) (σ : L2.St), (∀ Q : VK, Q (.ref p) H → te σ H Q) → ∀ R : It → Hp → Prop, R J H → (iList K te σ H R ∨ iTup K te σ H R) := by
  rcases h with h | h
  · exact ⟨Itl K p, _, walk_list, fun H' e => SqL.ext h e, fun te σ ht R r => .inl (ht _ ⟨p, rfl, ⟨xs, h⟩, r⟩)⟩
  · exact ⟨Itt K p, _, walk_tup, fun H' e => SqT.ext h e, fun te σ ht R r => .inr (ht _ ⟨p, rfl, ⟨xs, h⟩, r⟩)⟩
/-- a for by a walk -/
theorem tFor_w {wi : TI} {J : It} {n : Nat} {G : Hp → Prop} {Y : Nat → Hp → V → Hp → Prop} {g : TG} {tb : L2.TS} {D : Ends} {σ : L2.St} {H : Hp} (w : Walk J n G Y) (hw : ∀ R : It → Hp → Prop, R J H → wi σ H R) (Pv : Nat → L2.St → Hp → Prop) (h0 : Pv 0 σ H) (hG : ∀ i σ H, i ≤ n → Pv i σ H → G H)
    (hs : ∀ i x σ H H', i < n → Pv i σ H → Y i H x H' → g x σ H' fun σ2 H2 => tb { D with nx := Pv (i + 1), ct := Pv (i + 1), bk := D.nx } σ2 H2) (hd : ∀ σ H, Pv n σ H → D.nx σ H) : tFor wi g tb D σ H := hw _ (for_it w Pv h0 hG hs hd)
theorem sfor_w {wi : TI} {J : It} {n : Nat} {G : Hp → Prop} {Y : Nat → Hp → V → Hp → Prop} {g : TG} {tb u : L2.TS} {D : Ends} {σ : L2.St} {H : Hp} (w : Walk J n G Y) (hw : ∀ R : It → Hp → Prop, R J H → wi σ H R) (Pv : Nat → L2.St → Hp → Prop) (h0 : Pv 0 σ H) (hG : ∀ i σ H, i ≤ n → Pv i σ H → G H)
    (hs : ∀ i x σ H H', i < n → Pv i σ H → Y i H x H' → g x σ H' fun σ2 H2 => tb { D with nx := Pv (i + 1), ct := Pv (i + 1), bk := u D } σ2 H2) (hd : ∀ σ H, Pv n σ H → u D σ H) : tSeq (tFor wi g tb) u D σ H := tFor_w (D := { D with nx := u D }) w hw Pv h0 hG hs hd
theorem fld_at {K : PySem.W.Frag} {i : Nat} {σ : L2.St} {H : Hp} {a C dx : Addr} {fs : List (Str × V)} {f : Str} {v : V} {Q : VK} (hs : σ[i]? = some (some (.ref a))) (e : H a = some (.ins C dx fs)) (c : Cls K C) (n : NoAttr K C f) (l : fs.lookup f = some v) (q : Q v H) : tFld K (tVar i) f σ H Q :=
  ⟨_, hs, a, C, dx, fs, v, rfl, e, c, n, l, q⟩
theorem fldc_at {K : PySem.W.Frag} {σ : L2.St} {H : Hp} {a C dx : Addr} {fs : List (Str × V)} {f : Str} {v : V} {Q : VK} {te : TE} (hs : ∀ R : VK, R (.ref a) H → te σ H R) (e : H a = some (.ins C dx fs)) (c : Cls K C) (n : NoAttr K C f) (l : fs.lookup f = some v) (q : Q v H) : tFld K te f σ H Q :=
  hs _ ⟨a, C, dx, fs, v, rfl, e, c, n, l, q⟩
theorem sfld_at {K : PySem.W.Frag} {i : Nat} {σ : L2.St} {H : Hp} {a C dx : Addr} {f : Str} {tv : TE} {D : Ends} (hs : σ[i]? = some (some (.ref a))) (c : Cls K C) (n : NoAttr K C f)
    (h : tv σ H fun y H1 => ∃ fs, H1 a = some (.ins C dx fs) ∧ fs.length < 1000 ∧ D.nx σ (upd H1 a (.ins C dx (putF f y fs)))) (m : ∀ (Q Q' : VK), (∀ v H, Q v H → Q' v H) → tv σ H Q → tv σ H Q') : sFld K (tVar i) tv f D σ H :=
  m _ _ (fun y H1 q => by
    obtain ⟨fs, e, l, q⟩ := q
    exact ⟨_, hs, a, C, dx, fs, rfl, e, c, n, l, q⟩) h
/-- a field is written: what it holds, all but the object as it was -/
theorem sfld_v {K : PySem.W.Frag} {i j : Nat} {σ : L2.St} {H : Hp} {a C dx : Addr} {fs : List (Str × V)} {f : Str} {y : V} {D : Ends} (hi : σ[i]? = some (some (.ref a))) (hj : σ[j]? = some (some y)) (e : H a = some (.ins C dx fs)) (c : Cls K C) (n : NoAttr K C f) (l : fs.length < 1000)
    (h : ∀ H', (∀ b o, b ≠ a → H b = some o → H' b = some o) → H' a = some (.ins C dx (putF f y fs)) → D.nx σ H') : sFld K (tVar i) (tVar j) f D σ H :=
  ⟨y, hj, _, hi, a, C, dx, fs, rfl, e, c, n, l, h _ (fun b o hb q => (upd_ne hb).trans q) upd_same⟩
theorem sfld_c {K : PySem.W.Frag} {i : Nat} {σ : L2.St} {H : Hp} {a C dx : Addr} {fs : List (Str × V)} {f : Str} {y : V} {D : Ends} (hi : σ[i]? = some (some (.ref a))) (e : H a = some (.ins C dx fs)) (c : Cls K C) (n : NoAttr K C f) (l : fs.length < 1000)
    (h : ∀ H', (∀ b o, b ≠ a → H b = some o → H' b = some o) → H' a = some (.ins C dx (putF f y fs)) → D.nx σ H') : sFld K (tVar i) (tC y) f D σ H :=
  ⟨_, hi, a, C, dx, fs, rfl, e, c, n, l, h _ (fun b o hb q => (upd_ne hb).trans q) upd_same⟩
theorem sfld_n {K : PySem.W.Frag} {i : Nat} {σ : L2.St} {H : Hp} {a C dx : Addr} {fs : List (Str × V)} {f : Str} {o : HO} {tv : TE} {D : Ends} (hv : ∀ Q : VK, (∀ p, H p = none → Q (.ref p) (upd H p o)) → tv σ H Q) (hi : σ[i]? = some (some (.ref a))) (e : H a = some (.ins C dx fs)) (c : Cls K C) (n : NoAttr K C f) (l : fs.length < 1000)
    (h : ∀ H' p, (∀ b o, b ≠ a → H b = some o → H' b = some o) → H p = none → p ≠ a → H' p = some o → H' a = some (.ins C dx (putF f (.ref p) fs)) → D.nx σ H') : sFld K (tVar i) tv f D σ H :=
  hv _ fun p hp => by
    have n1 : a ≠ p := ne_of_none e hp
    exact ⟨_, hi, a, C, dx, fs, rfl, (upd_ne n1).trans e, c, n, l, h _ p (fun b o hb q => (upd_ne hb).trans ((upd_ne (ne_of_none q hp)).trans q)) hp n1.symm ((upd_ne n1.symm).trans upd_same) upd_same⟩
/-- a list comprehension by a walk -/
theorem tLc_w {wi : TI} {J : It} {n : Nat} {G : Hp → Prop} {Y : Nat → Hp → V → Hp → Prop} {g : TG} {tt : TT} {te : TE} {vs : List Nat} {σ : L2.St} {H : Hp} {Q : VK} (w : Walk J n G Y) (hw : ∀ R : It → Hp → Prop, R J H → wi σ H R) (Pv : Addr → Nat → Hp → Prop)
    (h0 : ∀ D, H D = none → Pv D 0 (upd H D (.lst []))) (hG : ∀ D i H', H D = none → i ≤ n → Pv D i H' → G H')
    (hs : ∀ D i x H1 H', H D = none → i < n → Pv D i H1 → Y i H1 x H' → g x (wipe σ vs) H' fun σ2 H2 => wipe σ2 vs = wipe σ vs ∧ tt σ2 H2 fun b H3 =>
      if b = true then te σ2 H3 fun y H4 => ∃ acc, H4 D = some (.lst acc) ∧ acc.length < sizeLine ∧ Pv D (i + 1) (upd H4 D (.lst (acc ++ [y]))) else Pv D (i + 1) H3) (hd : ∀ D H', H D = none → Pv D n H' → Q (.ref D) H') : tLc wi g tt te vs σ H Q :=
  hw _ fun D hD => lc_it w (Pv D) (h0 D hD) (fun i H' hi q => hG D i H' hD hi q) (fun i x H1 H' hi q y => hs D i x H1 H' hD hi q y) (fun H' q => hd D H' hD q)
/-- a dict comprehension by a walk -/
theorem tDcN_w {P : Program} {wd : World} {K : PySem.W.Frag} {wi : TI} {J : It} {n : Nat} {G : Hp → Prop} {Y : Nat → Hp → V → Hp → Prop} {g : TG} {tt : TT} {tk tv : TE} {vs : List Nat} {σ : L2.St} {H : Hp} {Q : VK} (w : Walk J n G Y) (hw : ∀ R : It → Hp → Prop, R J H → wi σ H R)
    (Pv : Addr → Nat → Hp → Prop) (h0 : ∀ D, H D = none → Pv D 0 (upd H D (DN P wd D []))) (hG : ∀ D i H', H D = none → i ≤ n → Pv D i H' → G H')
    (hs : ∀ D i x H1 H', H D = none → i < n → Pv D i H1 → Y i H1 x H' → g x (wipe σ vs) H' fun σ2 H2 => wipe σ2 vs = wipe σ vs ∧ tt σ2 H2 fun b H3 =>
      if b = true then tk σ2 H3 fun y H4 => tv σ2 H4 fun z H5 => ∃ es b k, y = .ref b ∧ H5 D = some (DN P wd D es) ∧ KysAt K H5 es ∧ es.length < sizeLine ∧ KyAt K H5 b k ∧ Pv D (i + 1) (upd H5 D (DN P wd D (putN es k b z))) else Pv D (i + 1) H3)
    (hd : ∀ D H', H D = none → Pv D n H' → Q (.ref D) H') : tDcN P wd K wi g tt tk tv vs σ H Q := by
  refine hw _ fun D hD => ⟨fun i m H' => m = n - i ∧ i ≤ n ∧ Pv D i H', ⟨n, by simp, Nat.zero_le _, h0 D hD⟩, ?_⟩
  rintro i m H' ⟨rfl, hi, p⟩
  have q := hG D i H' hD hi p
  by_cases hlt : i < n
  · exact .inr ⟨w.goes i H' hlt q, Pv D (i + 1), fun H' p' => ⟨n - (i + 1), by omega, rfl, hlt, p'⟩, fun x H2 y => hs D i x H' H2 hD hlt p (w.yields i H' x H2 hlt q y)⟩
  · have e : i = n := by omega
    subst e
    exact .inl ⟨w.stops H' q, hd D H' hD p⟩
section
variable {P : Program} {w : World} {K : PySem.W.Frag} {mg : Str → Option Value} {base : Heap} {x qual : Str} {params : Arguments} {body : List Stmt} {scope : Scope} {f : Addr} {fd : FuncData} {N ps : List Str} {k : Nat} {sp : Sp} {dfl : List V}
theorem fn_okD (F : FunD K x qual params body scope dfl [] f fd) (S : FnScope N ps scope) (len : ∀ vs H Q E, sp vs H Q E → vs.length = ps.length)
    (hbody : ∀ (cdv : Value) (A : Around) (outer : List Env) (s : Shared) (H : Hp) (vs : List V) (Q : VK) (E : XK), Room k (A.deeper (envOfC qual scope s.heap.objs.size f cdv)) → sp vs H Q E →
      ∃ t, PSs (cxOf CX0 P w K mg base N qual scope f cdv A outer s H E).nox body t ∧ t { nx := fun _ H' => Q .non H', rt := Q } (start N vs) H) : FnOk P w K mg base CX0 (k + 1) f fd ps sp :=
  F.ok S len fun cdv A outer s H vs Q E hr h => by
    obtain ⟨t, ht, q⟩ := hbody cdv A outer s H vs Q E hr h
    exact ⟨t, ht.nox, q⟩
end
end K88
set_option maxHeartbeats 4000000
/-! words.py, the looks of tables.py. -/
namespace K88
open PySem PySem.Spec PyProof.Rows L2
theorem isi_ty {K : PySem.W.Frag} {H : Hp} {x : V} {n t : String} {b : Bool} {Q : VK} (hy : TyX K H x (.type t)) (hb : kitB t n = some b) (q : Q (.bl b) H) : rIsi K [x, .ty n] H Q := ⟨x, .ty n, .type t, .type n, b, rfl, .ty n, hy, kit_ty hb, q⟩
theorem kb_ss : kitB "str" "str" = some true := by decide +kernel
theorem kb_tt : kitB "tuple" "tuple" = some true := by decide +kernel
theorem kb_ii : kitB "int" "int" = some true := by decide +kernel
theorem kb_ib : kitB "int" "bool" = some false := by decide +kernel
theorem sqt_ty {K : PySem.W.Frag} {H : Hp} {p : Addr} {xs : List V} (h : SqT K H p xs) : TyX K H (.ref p) (.type "tuple") := by
  rcases h with (h | ⟨o, h⟩) | ⟨o, its, n, h, c, _⟩
  · exact .base (.tup h)
  · exact .fTuple h
  · exact .kTuple h c
theorem all_true {K : PySem.W.Frag} {H : Hp} {D : Addr} {ys : List V} {Q : VK} (e : H D = some (.lst ys)) (hp : ∀ (i : Nat) y, ys[i]? = some y → y = .bl true) (k : Q (.bl true) H) : rAll K [.ref D] H Q := by
  refine ⟨D, List.replicate ys.length true, rfl, ?_, ?_⟩
  · have ey : (List.replicate ys.length true).map V.bl = ys := by
      rw [List.map_replicate]
      refine List.ext_getElem? fun i => ?_
      by_cases hi : i < ys.length
      · rw [List.getElem?_replicate, if_pos hi]
        exact ((hp i ys[i] (List.getElem?_eq_getElem hi)) ▸ (List.getElem?_eq_getElem hi)).symm
      · rw [List.getElem?_eq_none (by simpa using hi), List.getElem?_eq_none (by omega)]
    rw [ey]
    exact SqL.of e
  · rw [show (List.replicate ys.length true).all id = true by simp]
    exact k
section
variable {P : Program} {w : World} {K : PySem.W.Frag} {mg : Str → Option Value} {base : Heap}
abbrev N_is_word : List Str := ["value", "sign"]
theorem sc_is_word : FnScope N_is_word ["value"] (defScope s_is_word) := ⟨rfl, rfl, rfl, by decide +kernel, rfl, by decide +kernel, by decide +kernel⟩
theorem st_is_word (x0 : V) : L2.start N_is_word [x0] = [some x0, none] := rfl
def p_is_word : V → Hp → VK → Prop := fun v H Q => ∃ u, v = vW u ∧ OkW u ∧ RetV H Q (.bl true)
theorem ok_is_word (L : Lw K mg) : FN P w K mg base 1 a_is_word (sp1 p_is_word) := by
  obtain ⟨fd, F⟩ := L.is_word
  refine fn_any F sc_is_word (len1 rfl) (fun _ _ _ _ _ _ us hl => match us, hl with | [_], _ => rfl) fun cdv A outer s H vs Q E hr h => ?_
  obtain ⟨_, rfl, u, rfl, ok, k⟩ := h
  have nd := sc_is_word.nd
  refine ⟨_, (pss_cons (ps_if (PW.pt (pw_or (pt_not (pt_val (pe_callB call_isi (by rfl) L.z_isinstance (by decide +kernel) (pa_cons (pv 0) (pa_cons (pe_bltn (v := .ty "str") (by rfl) L.z_str (by decide +kernel) rfl) pa_nil))))) (pw_or1 (pt_not (pt_chain op_le op_le pe_int (pe_callB call_len (by rfl) L.z_len (by decide +kernel) (pa_cons (pv 0) pa_nil)) (pe_gi L.i_MOST_LETTERS rfl)))))) (pss_one (ps_ret pe_bl)) pss_nil) (pss_one (ps_ret (pe_callB (cr_all rfl) (by rfl) L.z_all (by decide +kernel) (pa_cons (pe_lc (own := [("sign", 1)]) (g := gName 1) rfl nd (pi_str (pv 0)) (blkOk_by (N := N_is_word) (sc := defScope s_is_word) (by decide +kernel)) (fun _ _ _ _ _ => (pg_name (i := 1) nd rfl (Or.inl rfl))) (fun _ _ _ _ _ => pts_nil) (fun _ _ _ _ _ => (pe_cmpR op_in_sign (pv 1) (pe_gs L.s_LETTERS rfl) (by rfl)))) pa_nil))))), ?_⟩
  simp only [tCKw, tVals, gStar, gCons, gNil, StX.tStar, tFmtS, tFmtI, tM0, tJs, tM1, rNewStrs, tMatch, setAll, lit_to, lit_page, lit_section, lit_gone, lit_exact, lit_open, tSeq, tAsg, tIfS, tRet, tRetN, tDrop, tNext, tNever, tOr, tAnd, tNot, tB, tTest, tCB, tCons, tVar, tC, tNil, tOp, tUn, tIf, tAndV, tOrV, tNotV, tChain, tTup, tLst, tCallR, tMethN, tMakeN, tPropN, tYes, gName, cx_K, cx_P, cx_w, rI0, rI, rEq, rNe, List.getElem?_cons_zero, List.getElem?_cons_succ, List.set_cons_zero, List.set_cons_succ, Option.some.injEq, exists_eq_left', exists_eq_left, V.bl.injEq, V.int.injEq, V.str.injEq, V.ref.injEq, List.cons.injEq, and_true, true_and, exists_and_left, and_assoc, List.append_nil, st_is_word]
  refine isi_ty (.base (.str (T u))) kb_ss ⟨true, rfl, iteF ?_⟩
  have h1 := ok.lo
  have h2 := ok.hi
  have hz : (T u).length = u.length := rfl
  refine ⟨u.length, ⟨Nat.le_trans h2 (by decide), hz.symm⟩, ?_⟩
  rw [if_pos (decide_eq_true (by omega)), if_neg (by rw [decide_eq_true (by omega)]; decide)]
  refine tLc_name walk_str (fun R h => ⟨_, rfl, _, rfl, h⟩) (Nat.le_trans h2 (by decide)) (fun _ y _ => y = .bl true) (fun _ _ _ _ _ e => e) (fun _ _ => trivial) (fun _ => rfl) (fun i x H1 H' Q' hi s1 y k => ?_) fun D ys H' hD hl hp s1 e => ?_
  · obtain ⟨rfl, c, hc, rfl⟩ := y
    unfold vW
    refine ⟨_, rfl, c, rfl, _, rfl, ?_⟩
    have hm : c ∈ u := by
      have h3 : u[i]? = some c := by simpa using hc
      exact List.mem_of_getElem? h3
    have hz : c ∈ (Str.ofString "abcdefghijklmnopqrstuvwxyz").cps.toList := by
      have h4 := ok.az c hm
      have e : (Str.ofString "abcdefghijklmnopqrstuvwxyz").cps.toList = List.range' 97 26 := by decide +kernel
      rw [e]
      exact List.mem_range'_1.mpr ⟨h4.1, by omega⟩
    rw [decide_eq_true hz]
    exact k _ _ (Same.refl _) rfl
  · exact all_true e hp (k H' s1)
abbrev N_is_address : List Str := ["value", "word"]
theorem sc_is_address : FnScope N_is_address ["value"] (defScope s_is_address) := ⟨rfl, rfl, rfl, by decide +kernel, rfl, by decide +kernel, by decide +kernel⟩
theorem st_is_address (x0 : V) : L2.start N_is_address [x0] = [some x0, none] := rfl
def p_is_address : V → Hp → VK → Prop := fun v H Q => ∃ a, AdAt K H v a ∧ a.length ≤ 1000 ∧ (∀ u ∈ a, OkW u) ∧ RetV H Q (.bl true)
theorem ok_is_address (L : Lw K mg) : FN P w K mg base 2 a_is_address (sp1 (p_is_address (K := K))) := by
  obtain ⟨fd, F⟩ := L.is_address
  refine fn_any F sc_is_address (len1 rfl) (fun _ _ _ _ _ _ us hl => match us, hl with | [_], _ => rfl) fun cdv A outer s H vs Q E hr h => ?_
  obtain ⟨_, rfl, a, ⟨p, rfl, hp⟩, hl, ok, k⟩ := h
  have nd := sc_is_address.nd
  refine ⟨_, (pss_one (ps_ret (pe_and (pe_callB call_isi (by rfl) L.z_isinstance (by decide +kernel) (pa_cons (pv 0) (pa_cons (pe_bltn (v := .ty "tuple") (by rfl) L.z_tuple (by decide +kernel) rfl) pa_nil))) (pe_one (pe_callB (cr_all rfl) (by rfl) L.z_all (by decide +kernel) (pa_cons (pe_lc (own := [("word", 1)]) (g := gName 1) rfl nd (pi_tup (pv 0)) (blkOk_by (N := N_is_address) (sc := defScope s_is_address) (by decide +kernel)) (fun _ _ _ _ _ => (pg_name (i := 1) nd rfl (Or.inl rfl))) (fun _ _ _ _ _ => pts_nil) (fun _ _ _ _ _ => (pe_g (ok_is_word L) (hr.mono (by decide)) rfl L.g_is_word L.is_word.kp (pa_cons (pv 1) pa_nil)))) pa_nil)))))), ?_⟩
  simp only [tCKw, tVals, gStar, gCons, gNil, StX.tStar, tFmtS, tFmtI, tM0, tJs, tM1, rNewStrs, tMatch, setAll, lit_to, lit_page, lit_section, lit_gone, lit_exact, lit_open, tSeq, tAsg, tIfS, tRet, tRetN, tDrop, tNext, tNever, tOr, tAnd, tNot, tB, tTest, tCB, tCons, tVar, tC, tNil, tOp, tUn, tIf, tAndV, tOrV, tNotV, tChain, tTup, tLst, tCallR, tMethN, tMakeN, tPropN, tYes, gName, cx_K, cx_P, cx_w, rI0, rI, rEq, rNe, List.getElem?_cons_zero, List.getElem?_cons_succ, List.set_cons_zero, List.set_cons_succ, Option.some.injEq, exists_eq_left', exists_eq_left, V.bl.injEq, V.int.injEq, V.str.injEq, V.ref.injEq, List.cons.injEq, and_true, true_and, exists_and_left, and_assoc, List.append_nil, st_is_address]
  refine isi_ty (sqt_ty hp) kb_tt ⟨true, rfl, iteT ?_⟩
  refine tLc_name walk_tup (fun R h => ⟨_, rfl, p, rfl, ⟨_, hp⟩, h⟩) (by rw [List.length_map]; omega) (fun _ y _ => y = .bl true) (fun _ _ _ _ _ e => e) (fun H' s1 => s1.sqt hp) (fun _ => rfl) (fun i x H1 H' Q' hi s1 y k => ?_) fun D ys H' hD hl hq s1 e => ?_
  · obtain ⟨rfl, hx⟩ := y
    rw [List.getElem?_map] at hx
    obtain ⟨u, hu, rfl⟩ := Option.map_eq_some_iff.mp hx
    simp only [tCKw, tVals, gStar, gCons, gNil, StX.tStar, tFmtS, tFmtI, tM0, tJs, tM1, rNewStrs, tMatch, setAll, lit_to, lit_page, lit_section, lit_gone, lit_exact, lit_open, tSeq, tAsg, tIfS, tRet, tRetN, tDrop, tNext, tNever, tOr, tAnd, tNot, tB, tTest, tCB, tCons, tVar, tC, tNil, tOp, tUn, tIf, tAndV, tOrV, tNotV, tChain, tTup, tLst, tCallR, tMethN, tMakeN, tPropN, tYes, gName, cx_K, cx_P, cx_w, rI0, rI, rEq, rNe, List.getElem?_cons_zero, List.getElem?_cons_succ, List.set_cons_zero, List.set_cons_succ, Option.some.injEq, exists_eq_left', exists_eq_left, V.bl.injEq, V.int.injEq, V.str.injEq, V.ref.injEq, List.cons.injEq, and_true, true_and, exists_and_left, and_assoc, List.append_nil]
    exact ⟨_, rfl, _, rfl, u, rfl, ok u (List.mem_of_getElem? hu), fun H2 s2 => k _ _ s2 rfl⟩
  · exact all_true e hq (k H' s1)
abbrev N_is_number : List Str := ["value"]
theorem sc_is_number : FnScope N_is_number ["value"] (defScope s_is_number) := ⟨rfl, rfl, rfl, by decide +kernel, rfl, by decide +kernel, by decide +kernel⟩
theorem st_is_number (x0 : V) : L2.start N_is_number [x0] = [some x0] := rfl
def p_is_number : V → Hp → VK → Prop := fun v H Q => ∃ i : Int, v = .int i ∧ 0 ≤ i ∧ RetV H Q (.bl true)
theorem ok_is_number (L : Lw K mg) : FN P w K mg base 1 a_is_number (sp1 p_is_number) := by
  obtain ⟨fd, F⟩ := L.is_number
  refine fn_any F sc_is_number (len1 rfl) (fun _ _ _ _ _ _ us hl => match us, hl with | [_], _ => rfl) fun cdv A outer s H vs Q E hr h => ?_
  obtain ⟨_, rfl, i, rfl, hi, k⟩ := h
  have nd := sc_is_number.nd
  refine ⟨_, (pss_one (ps_ret (pe_and (pe_callB call_isi (by rfl) L.z_isinstance (by decide +kernel) (pa_cons (pv 0) (pa_cons (pe_bltn (v := .ty "int") (by rfl) L.z_int (by decide +kernel) rfl) pa_nil))) (pe_and (pe_not (pe_callB call_isi (by rfl) L.z_isinstance (by decide +kernel) (pa_cons (pv 0) (pa_cons (pe_bltn (v := .ty "bool") (by rfl) L.z_bool (by decide +kernel) rfl) pa_nil)))) (pe_one (pe_cmpR op_ge (pv 0) pe_int (nomark _))))))), ?_⟩
  simp only [tCKw, tVals, gStar, gCons, gNil, StX.tStar, tFmtS, tFmtI, tM0, tJs, tM1, rNewStrs, tMatch, setAll, lit_to, lit_page, lit_section, lit_gone, lit_exact, lit_open, tSeq, tAsg, tIfS, tRet, tRetN, tDrop, tNext, tNever, tOr, tAnd, tNot, tB, tTest, tCB, tCons, tVar, tC, tNil, tOp, tUn, tIf, tAndV, tOrV, tNotV, tChain, tTup, tLst, tCallR, tMethN, tMakeN, tPropN, tYes, gName, cx_K, cx_P, cx_w, rI0, rI, rEq, rNe, List.getElem?_cons_zero, List.getElem?_cons_succ, List.set_cons_zero, List.set_cons_succ, Option.some.injEq, exists_eq_left', exists_eq_left, V.bl.injEq, V.int.injEq, V.str.injEq, V.ref.injEq, List.cons.injEq, and_true, true_and, exists_and_left, and_assoc, List.append_nil, st_is_number]
  refine isi_ty (.base (.int _)) kb_ii ⟨true, rfl, iteT ?_⟩
  refine isi_ty (.base (.int _)) kb_ib ⟨false, rfl, iteT ?_⟩
  rw [decide_eq_true hi]
  exact k H (Same.refl H)
abbrev N_is_day : List Str := ["value"]
theorem sc_is_day : FnScope N_is_day ["value"] (defScope s_is_day) := ⟨rfl, rfl, rfl, by decide +kernel, rfl, by decide +kernel, by decide +kernel⟩
theorem st_is_day (x0 : V) : L2.start N_is_day [x0] = [some x0] := rfl
def p_is_day : V → Hp → VK → Prop := fun v H Q => ∃ i : Int, v = .int i ∧ 0 ≤ i ∧ i ≤ 1000000 ∧ RetV H Q (.bl true)
theorem ok_is_day (L : Lw K mg) : FN P w K mg base 2 a_is_day (sp1 p_is_day) := by
  obtain ⟨fd, F⟩ := L.is_day
  refine fn_any F sc_is_day (len1 rfl) (fun _ _ _ _ _ _ us hl => match us, hl with | [_], _ => rfl) fun cdv A outer s H vs Q E hr h => ?_
  obtain ⟨_, rfl, i, rfl, hi, hj, k⟩ := h
  have nd := sc_is_day.nd
  refine ⟨_, (pss_one (ps_ret (pe_and (pe_g (ok_is_number L) (hr.mono (by decide)) rfl L.g_is_number L.is_number.kp (pa_cons (pv 0) pa_nil)) (pe_one (pe_cmpR op_le (pv 0) (pe_gi L.i_LAST_DAY rfl) (nomark _)))))), ?_⟩
  simp only [tCKw, tVals, gStar, gCons, gNil, StX.tStar, tFmtS, tFmtI, tM0, tJs, tM1, rNewStrs, tMatch, setAll, lit_to, lit_page, lit_section, lit_gone, lit_exact, lit_open, tSeq, tAsg, tIfS, tRet, tRetN, tDrop, tNext, tNever, tOr, tAnd, tNot, tB, tTest, tCB, tCons, tVar, tC, tNil, tOp, tUn, tIf, tAndV, tOrV, tNotV, tChain, tTup, tLst, tCallR, tMethN, tMakeN, tPropN, tYes, gName, cx_K, cx_P, cx_w, rI0, rI, rEq, rNe, List.getElem?_cons_zero, List.getElem?_cons_succ, List.set_cons_zero, List.set_cons_succ, Option.some.injEq, exists_eq_left', exists_eq_left, V.bl.injEq, V.int.injEq, V.str.injEq, V.ref.injEq, List.cons.injEq, and_true, true_and, exists_and_left, and_assoc, List.append_nil, st_is_day]
  refine ⟨_, rfl, i, rfl, hi, fun H1 s1 => ⟨true, rfl, iteT ?_⟩⟩
  rw [decide_eq_true hj]
  exact k H1 s1
abbrev N_is_place : List Str := ["value"]
theorem sc_is_place : FnScope N_is_place ["value"] (defScope s_is_place) := ⟨rfl, rfl, rfl, by decide +kernel, rfl, by decide +kernel, by decide +kernel⟩
theorem st_is_place (x0 : V) : L2.start N_is_place [x0] = [some x0] := rfl
def p_is_place : V → Hp → VK → Prop := fun v H Q => ∃ a, AdAt K H v a ∧ OkA a ∧ RetV H Q (.bl true)
theorem ok_is_place (L : Lw K mg) : FN P w K mg base 3 a_is_place (sp1 (p_is_place (K := K))) := by
  obtain ⟨fd, F⟩ := L.is_place
  refine fn_any F sc_is_place (len1 rfl) (fun _ _ _ _ _ _ us hl => match us, hl with | [_], _ => rfl) fun cdv A outer s H vs Q E hr h => ?_
  obtain ⟨_, rfl, a, ha, ok, k⟩ := h
  have nd := sc_is_place.nd
  refine ⟨_, (pss_one (ps_ret (pe_and (pe_g (ok_is_address L) (hr.mono (by decide)) rfl L.g_is_address L.is_address.kp (pa_cons (pv 0) pa_nil)) (pe_one (pe_cmpR op_le (pe_callB call_len (by rfl) L.z_len (by decide +kernel) (pa_cons (pv 0) pa_nil)) (pe_gi L.i_MOST_WORDS rfl) (nomark _)))))), ?_⟩
  simp only [tCKw, tVals, gStar, gCons, gNil, StX.tStar, tFmtS, tFmtI, tM0, tJs, tM1, rNewStrs, tMatch, setAll, lit_to, lit_page, lit_section, lit_gone, lit_exact, lit_open, tSeq, tAsg, tIfS, tRet, tRetN, tDrop, tNext, tNever, tOr, tAnd, tNot, tB, tTest, tCB, tCons, tVar, tC, tNil, tOp, tUn, tIf, tAndV, tOrV, tNotV, tChain, tTup, tLst, tCallR, tMethN, tMakeN, tPropN, tYes, gName, cx_K, cx_P, cx_w, rI0, rI, rEq, rNe, List.getElem?_cons_zero, List.getElem?_cons_succ, List.set_cons_zero, List.set_cons_succ, Option.some.injEq, exists_eq_left', exists_eq_left, V.bl.injEq, V.int.injEq, V.str.injEq, V.ref.injEq, List.cons.injEq, and_true, true_and, exists_and_left, and_assoc, List.append_nil, st_is_place]
  refine ⟨_, rfl, a, ha, Nat.le_trans ok.hi (by decide), ok.ok, fun H1 s1 => ⟨true, rfl, iteT ?_⟩⟩
  obtain ⟨p, rfl, hp⟩ := ha
  refine ⟨_, .inr ⟨_, s1.sqt hp, rfl⟩, ?_⟩
  have h4 := ok.hi
  rw [List.length_map, decide_eq_true (by omega)]
  exact k H1 s1
abbrev N_is_redirect : List Str := ["value", "target", "days"]
theorem sc_is_redirect : FnScope N_is_redirect ["value"] (defScope s_is_redirect) := ⟨rfl, rfl, rfl, by decide +kernel, rfl, by decide +kernel, by decide +kernel⟩
theorem st_is_redirect (x0 : V) : L2.start N_is_redirect [x0] = [some x0, none, none] := rfl
def p_is_redirect : V → Hp → VK → Prop := fun v H Q => ∃ t d, AnAt K H v (.to t d) ∧ OkA t ∧ d ≤ 10000 ∧ RetV H Q (.bl true)
theorem ok_is_redirect (L : Lw K mg) : FN P w K mg base 4 a_is_redirect (sp1 (p_is_redirect (K := K))) := by
  obtain ⟨fd, F⟩ := L.is_redirect
  refine fn_any F sc_is_redirect (len1 rfl) (fun _ _ _ _ _ _ us hl => match us, hl with | [_], _ => rfl) fun cdv A outer s H vs Q E hr h => ?_
  obtain ⟨_, rfl, t, d, ⟨p, u, rfl, hp, hu⟩, ok, hd, k⟩ := h
  have nd := sc_is_redirect.nd
  refine ⟨_, (pss_cons (ps_match (pv 0) (pcs_cons (is := [1, 2]) nd (pm_seq rfl (pms_cons (pm_val op_eq pe_str) (pms_cons pm_cap (pms_cons pm_cap pms_nil)))) ⟨rfl, .inl rfl, .inl rfl, rfl, .inl rfl, .inl rfl, trivial⟩ (pss_one (ps_ret (pe_and (pe_callB call_isi (by rfl) L.z_isinstance (by decide +kernel) (pa_cons (pv 0) (pa_cons (pe_bltn (v := .ty "tuple") (by rfl) L.z_tuple (by decide +kernel) rfl) pa_nil))) (pe_and (pe_g (ok_is_place L) (hr.mono (by decide)) rfl L.g_is_place L.is_place.kp (pa_cons (pv 1) pa_nil)) (pe_and (pe_g (ok_is_number L) (hr.mono (by decide)) rfl L.g_is_number L.is_number.kp (pa_cons (pv 2) pa_nil)) (pe_one (pe_cmpR op_le (pv 2) (pe_gi L.i_MOST_DAYS rfl) (nomark _)))))))) pcs_nil)) (pss_one (ps_ret pe_bl))), ?_⟩
  simp only [tCKw, tVals, gStar, gCons, gNil, StX.tStar, tFmtS, tFmtI, tM0, tJs, tM1, rNewStrs, tMatch, setAll, lit_to, lit_page, lit_section, lit_gone, lit_exact, lit_open, tSeq, tAsg, tIfS, tRet, tRetN, tDrop, tNext, tNever, tOr, tAnd, tNot, tB, tTest, tCB, tCons, tVar, tC, tNil, tOp, tUn, tIf, tAndV, tOrV, tNotV, tChain, tTup, tLst, tCallR, tMethN, tMakeN, tPropN, tYes, gName, cx_K, cx_P, cx_w, rI0, rI, rEq, rNe, List.getElem?_cons_zero, List.getElem?_cons_succ, List.set_cons_zero, List.set_cons_succ, Option.some.injEq, exists_eq_left', exists_eq_left, V.bl.injEq, V.int.injEq, V.str.injEq, V.ref.injEq, List.cons.injEq, and_true, true_and, exists_and_left, and_assoc, List.append_nil, st_is_redirect]
  refine case_yes (seq_yes (.inl hp) rfl (pcons_yes (val_yes scal_W rfl) (pcons_yes cap_yes (pcons_yes cap_yes pnil)))) ?_
  simp only [tCKw, tVals, gStar, gCons, gNil, StX.tStar, tFmtS, tFmtI, tM0, tJs, tM1, rNewStrs, tMatch, setAll, lit_to, lit_page, lit_section, lit_gone, lit_exact, lit_open, tSeq, tAsg, tIfS, tRet, tRetN, tDrop, tNext, tNever, tOr, tAnd, tNot, tB, tTest, tCB, tCons, tVar, tC, tNil, tOp, tUn, tIf, tAndV, tOrV, tNotV, tChain, tTup, tLst, tCallR, tMethN, tMakeN, tPropN, tYes, gName, cx_K, cx_P, cx_w, rI0, rI, rEq, rNe, List.getElem?_cons_zero, List.getElem?_cons_succ, List.set_cons_zero, List.set_cons_succ, Option.some.injEq, exists_eq_left', exists_eq_left, V.bl.injEq, V.int.injEq, V.str.injEq, V.ref.injEq, List.cons.injEq, and_true, true_and, exists_and_left, and_assoc, List.append_nil, List.nil_append, List.cons_append]
  refine isi_ty (sqt_ty hp) kb_tt ⟨true, rfl, iteT ?_⟩
  refine ⟨_, rfl, t, hu, ok, fun H1 s1 => ⟨true, rfl, iteT ?_⟩⟩
  refine ⟨_, rfl, (d : Int), rfl, Int.natCast_nonneg d, fun H2 s2 => ⟨true, rfl, iteT ?_⟩⟩
  rw [decide_eq_true (by omega)]
  exact k H2 (s1.trans s2)
end
end K88
set_option maxHeartbeats 4000000
namespace K88
open PySem PySem.Spec PyProof.Rows L2
section
variable {P : Program} {w : World} {K : PySem.W.Frag} {mg : Str → Option Value} {base : Heap}
abbrev N_is_rule_answer : List Str := ["sort", "value", "name"]
theorem sc_is_rule_answer : FnScope N_is_rule_answer ["sort", "value"] (defScope s_is_rule_answer) := ⟨rfl, rfl, rfl, by decide +kernel, rfl, by decide +kernel, by decide +kernel⟩
theorem st_is_rule_answer (x0 x1 : V) : L2.start N_is_rule_answer [x0, x1] = [some x0, some x1, none] := rfl
def p_is_rule_answer : V → V → Hp → VK → Prop := fun x v H Q => ∃ ex a, x = vW (sortOf ex) ∧ AnAt K H v a ∧ OkAn ex a ∧ RetV H Q (.bl true)
theorem ok_is_rule_answer (L : Lw K mg) : FN P w K mg base 5 a_is_rule_answer (sp2 (p_is_rule_answer (K := K))) := by
  obtain ⟨fd, F⟩ := L.is_rule_answer
  refine fn_any F sc_is_rule_answer (len2 rfl) (fun _ _ _ _ _ _ us hl => match us, hl with | [_, _], _ => rfl) fun cdv A outer s H vs Q E hr h => ?_
  obtain ⟨_, v, rfl, ex, a, rfl, ha, ok, k⟩ := h
  have nd := sc_is_rule_answer.nd
  refine ⟨_, (pss_cons (ps_if (pt_not (pt_val (pe_callB call_isi (by rfl) L.z_isinstance (by decide +kernel) (pa_cons (pv 1) (pa_cons (pe_bltn (v := .ty "tuple") (by rfl) L.z_tuple (by decide +kernel) rfl) pa_nil))))) (pss_one (ps_ret pe_bl)) pss_nil) (pss_cons (ps_match (pv 1) (pcs_cons (is := []) nd (pm_seq rfl (pms_cons (pm_val op_eq pe_str) pms_nil)) trivial (pss_one (ps_ret pe_bl)) (pcs_cons (is := [2]) nd (pm_seq rfl (pms_cons (pm_val op_eq pe_str) (pms_cons pm_cap pms_nil))) ⟨rfl, .inl rfl, .inl rfl, trivial⟩ (pss_one (ps_ret (pe_and (pe_cmpR op_eq (pv 0) pe_str (nomark _)) (pe_one (pe_g (ok_is_word L) (hr.mono (by decide)) rfl L.g_is_word L.is_word.kp (pa_cons (pv 2) pa_nil)))))) (pcs_cons (is := [2]) nd (pm_seq rfl (pms_cons (pm_val op_eq pe_str) (pms_cons pm_cap pms_nil))) ⟨rfl, .inl rfl, .inl rfl, trivial⟩ (pss_one (ps_ret (pe_and (pe_cmpR op_eq (pv 0) pe_str (nomark _)) (pe_one (pe_g (ok_is_word L) (hr.mono (by decide)) rfl L.g_is_word L.is_word.kp (pa_cons (pv 2) pa_nil)))))) pcs_nil)))) (pss_one (ps_ret (pe_g (ok_is_redirect L) (hr.mono (by decide)) rfl L.g_is_redirect L.is_redirect.kp (pa_cons (pv 1) pa_nil)))))), ?_⟩
  have isr : ∃ p xs, v = .ref p ∧ SqT K H p xs := by
    cases a with
    | gone => obtain ⟨p, e, q⟩ := ha; exact ⟨p, _, e, q⟩
    | page n => obtain ⟨p, e, q⟩ := ha; exact ⟨p, _, e, q⟩
    | «section» n => obtain ⟨p, e, q⟩ := ha; exact ⟨p, _, e, q⟩
    | to t d => obtain ⟨p, u, e, q, _⟩ := ha; exact ⟨p, _, e, q⟩
  obtain ⟨p0, xs0, rfl, q0⟩ := isr
  simp only [tCKw, tVals, gStar, gCons, gNil, StX.tStar, tFmtS, tFmtI, tM0, tJs, tM1, rNewStrs, tMatch, setAll, lit_to, lit_page, lit_section, lit_gone, lit_exact, lit_open, tSeq, tAsg, tIfS, tRet, tRetN, tDrop, tNext, tNever, tOr, tAnd, tNot, tB, tTest, tCB, tCons, tVar, tC, tNil, tOp, tUn, tIf, tAndV, tOrV, tNotV, tChain, tTup, tLst, tCallR, tMethN, tMakeN, tPropN, tYes, gName, cx_K, cx_P, cx_w, rI0, rI, rEq, rNe, List.getElem?_cons_zero, List.getElem?_cons_succ, List.set_cons_zero, List.set_cons_succ, Option.some.injEq, exists_eq_left', exists_eq_left, V.bl.injEq, V.int.injEq, V.str.injEq, V.ref.injEq, List.cons.injEq, and_true, true_and, exists_and_left, and_assoc, List.append_nil, st_is_rule_answer]
  refine isi_ty (sqt_ty q0) kb_tt ⟨true, rfl, iteF ?_⟩
  cases a with
  | gone =>
    obtain ⟨p, e, q⟩ := ha
    cases e
    refine case_yes (seq_yes (.inl q) rfl (pcons_yes (val_yes scal_W rfl) pnil)) ?_
    simp only [tCKw, tVals, gStar, gCons, gNil, StX.tStar, tFmtS, tFmtI, tM0, tJs, tM1, rNewStrs, tMatch, setAll, lit_to, lit_page, lit_section, lit_gone, lit_exact, lit_open, tSeq, tAsg, tIfS, tRet, tRetN, tDrop, tNext, tNever, tOr, tAnd, tNot, tB, tTest, tCB, tCons, tVar, tC, tNil, tOp, tUn, tIf, tAndV, tOrV, tNotV, tChain, tTup, tLst, tCallR, tMethN, tMakeN, tPropN, tYes, gName, cx_K, cx_P, cx_w, rI0, rI, rEq, rNe, List.getElem?_cons_zero, List.getElem?_cons_succ, List.set_cons_zero, List.set_cons_succ, Option.some.injEq, exists_eq_left', exists_eq_left, V.bl.injEq, V.int.injEq, V.str.injEq, V.ref.injEq, List.cons.injEq, and_true, true_and, exists_and_left, and_assoc, List.append_nil, List.nil_append]
    exact k H (Same.refl H)
  | page n =>
    obtain ⟨p, e, q⟩ := ha
    cases e
    obtain ⟨rfl, okn⟩ := ok
    refine case_no (seq_len (.inl q) (nel rfl)) ?_
    refine case_yes (seq_yes (.inl q) rfl (pcons_yes (val_yes scal_W rfl) (pcons_yes cap_yes pnil))) ?_
    simp only [tCKw, tVals, gStar, gCons, gNil, StX.tStar, tFmtS, tFmtI, tM0, tJs, tM1, rNewStrs, tMatch, setAll, lit_to, lit_page, lit_section, lit_gone, lit_exact, lit_open, tSeq, tAsg, tIfS, tRet, tRetN, tDrop, tNext, tNever, tOr, tAnd, tNot, tB, tTest, tCB, tCons, tVar, tC, tNil, tOp, tUn, tIf, tAndV, tOrV, tNotV, tChain, tTup, tLst, tCallR, tMethN, tMakeN, tPropN, tYes, gName, cx_K, cx_P, cx_w, rI0, rI, rEq, rNe, List.getElem?_cons_zero, List.getElem?_cons_succ, List.set_cons_zero, List.set_cons_succ, Option.some.injEq, exists_eq_left', exists_eq_left, V.bl.injEq, V.int.injEq, V.str.injEq, V.ref.injEq, List.cons.injEq, and_true, true_and, exists_and_left, and_assoc, List.append_nil, List.nil_append]
    refine ⟨scal_W, iteT ?_⟩
    exact ⟨_, rfl, n, rfl, okn, k⟩
  | «section» n =>
    obtain ⟨p, e, q⟩ := ha
    cases e
    obtain ⟨rfl, okn⟩ := ok
    refine case_no (seq_len (.inl q) (nel rfl)) ?_
    refine case_no (seq_no (.inl q) rfl (pcons_no1 (val_no scal_W (vW_ne (by decide))))) ?_
    refine case_yes (seq_yes (.inl q) rfl (pcons_yes (val_yes scal_W rfl) (pcons_yes cap_yes pnil))) ?_
    simp only [tCKw, tVals, gStar, gCons, gNil, StX.tStar, tFmtS, tFmtI, tM0, tJs, tM1, rNewStrs, tMatch, setAll, lit_to, lit_page, lit_section, lit_gone, lit_exact, lit_open, tSeq, tAsg, tIfS, tRet, tRetN, tDrop, tNext, tNever, tOr, tAnd, tNot, tB, tTest, tCB, tCons, tVar, tC, tNil, tOp, tUn, tIf, tAndV, tOrV, tNotV, tChain, tTup, tLst, tCallR, tMethN, tMakeN, tPropN, tYes, gName, cx_K, cx_P, cx_w, rI0, rI, rEq, rNe, List.getElem?_cons_zero, List.getElem?_cons_succ, List.set_cons_zero, List.set_cons_succ, Option.some.injEq, exists_eq_left', exists_eq_left, V.bl.injEq, V.int.injEq, V.str.injEq, V.ref.injEq, List.cons.injEq, and_true, true_and, exists_and_left, and_assoc, List.append_nil, List.nil_append]
    refine ⟨scal_W, iteT ?_⟩
    exact ⟨_, rfl, n, rfl, okn, k⟩
  | to t d =>
    have ha' := ha
    obtain ⟨p, u, e, q, _⟩ := ha
    cases e
    refine case_no (seq_len (.inl q) (nel rfl)) ?_
    refine case_no (seq_len (.inl q) (nel rfl)) ?_
    refine case_no (seq_len (.inl q) (nel rfl)) ?_
    simp only [tCKw, tVals, gStar, gCons, gNil, StX.tStar, tFmtS, tFmtI, tM0, tJs, tM1, rNewStrs, tMatch, setAll, lit_to, lit_page, lit_section, lit_gone, lit_exact, lit_open, tSeq, tAsg, tIfS, tRet, tRetN, tDrop, tNext, tNever, tOr, tAnd, tNot, tB, tTest, tCB, tCons, tVar, tC, tNil, tOp, tUn, tIf, tAndV, tOrV, tNotV, tChain, tTup, tLst, tCallR, tMethN, tMakeN, tPropN, tYes, gName, cx_K, cx_P, cx_w, rI0, rI, rEq, rNe, List.getElem?_cons_zero, List.getElem?_cons_succ, List.set_cons_zero, List.set_cons_succ, Option.some.injEq, exists_eq_left', exists_eq_left, V.bl.injEq, V.int.injEq, V.str.injEq, V.ref.injEq, List.cons.injEq, and_true, true_and, exists_and_left, and_assoc, List.append_nil, tCNil]
    exact ⟨_, rfl, t, d, ha', ok.1, ok.2, k⟩
abbrev N_is_rule : List Str := ["value", "sort", "place", "answer"]
theorem sc_is_rule : FnScope N_is_rule ["value"] (defScope s_is_rule) := ⟨rfl, rfl, rfl, by decide +kernel, rfl, by decide +kernel, by decide +kernel⟩
theorem st_is_rule (x0 : V) : L2.start N_is_rule [x0] = [some x0, none, none, none] := rfl
def p_is_rule : V → Hp → VK → Prop := fun v H Q => ∃ r, RuAt K H v r ∧ OkR r ∧ RetV H Q (.bl true)
theorem ok_is_rule (L : Lw K mg) : FN P w K mg base 6 a_is_rule (sp1 (p_is_rule (K := K))) := by
  obtain ⟨fd, F⟩ := L.is_rule
  refine fn_any F sc_is_rule (len1 rfl) (fun _ _ _ _ _ _ us hl => match us, hl with | [_], _ => rfl) fun cdv A outer s H vs Q E hr h => ?_
  obtain ⟨_, rfl, r, ⟨p, x, y, rfl, hp, hx, hy⟩, ok, k⟩ := h
  have nd := sc_is_rule.nd
  refine ⟨_, (pss_cons (ps_if (PW.pt (pw_or (pt_not (pt_val (pe_callB call_isi (by rfl) L.z_isinstance (by decide +kernel) (pa_cons (pv 0) (pa_cons (pe_bltn (v := .ty "tuple") (by rfl) L.z_tuple (by decide +kernel) rfl) pa_nil))))) (pw_or (pt_cmpR op_ne (pe_callB call_len (by rfl) L.z_len (by decide +kernel) (pa_cons (pv 0) pa_nil)) pe_int (nomark _)) (pw_or1 (pt_not (pt_val (pe_callB call_isi (by rfl) L.z_isinstance (by decide +kernel) (pa_cons (pe_ix (ix_tupK (K := K) rfl) (pv 0) pe_int (fun _ _ => rfl)) (pa_cons (pe_bltn (v := .ty "str") (by rfl) L.z_str (by decide +kernel) rfl) pa_nil))))))))) (pss_one (ps_ret pe_bl)) pss_nil) (pss_cons (ps_asg (pv 0) (pg_tup rfl (pgs_cons (pg_name (i := 1) nd rfl (Or.inl rfl)) (pgs_cons (pg_name (i := 2) nd rfl (Or.inl rfl)) (pgs_cons (pg_name (i := 3) nd rfl (Or.inl rfl)) pgs_nil))))) (pss_one (ps_ret (pe_and (pe_cmpR op_in_seq (pv 1) (pe_tup (pa_cons pe_str (pa_cons pe_str pa_nil))) (by rfl)) (pe_and (pe_g (ok_is_place L) (hr.mono (by decide)) rfl L.g_is_place L.is_place.kp (pa_cons (pv 2) pa_nil)) (pe_one (pe_g (ok_is_rule_answer L) (hr.mono (by decide)) rfl L.g_is_rule_answer L.is_rule_answer.kp (pa_cons (pv 1) (pa_cons (pv 3) pa_nil)))))))))), ?_⟩
  simp only [tCKw, tVals, gStar, gCons, gNil, StX.tStar, tFmtS, tFmtI, tM0, tJs, tM1, rNewStrs, tMatch, setAll, lit_to, lit_page, lit_section, lit_gone, lit_exact, lit_open, tSeq, tAsg, tIfS, tRet, tRetN, tDrop, tNext, tNever, tOr, tAnd, tNot, tB, tTest, tCB, tCons, tVar, tC, tNil, tOp, tUn, tIf, tAndV, tOrV, tNotV, tChain, tTup, tLst, tCallR, tMethN, tMakeN, tPropN, tYes, gName, cx_K, cx_P, cx_w, rI0, rI, rEq, rNe, List.getElem?_cons_zero, List.getElem?_cons_succ, List.set_cons_zero, List.set_cons_succ, Option.some.injEq, exists_eq_left', exists_eq_left, V.bl.injEq, V.int.injEq, V.str.injEq, V.ref.injEq, List.cons.injEq, and_true, true_and, exists_and_left, and_assoc, List.append_nil, st_is_rule]
  refine isi_ty (sqt_ty hp) kb_tt ⟨true, rfl, iteF ?_⟩
  refine ⟨3, .inr ⟨_, hp, rfl⟩, rfl, iteF ?_⟩
  refine ⟨p, _, 0, _, rfl, rfl, hp, rfl, ?_⟩
  refine isi_ty (.base (.str _)) kb_ss ⟨true, rfl, iteF ?_⟩
  refine ⟨p, _, rfl, hp, rfl, _, _, rfl, _, _, rfl, _, _, rfl, rfl, ?_⟩
  simp only [tCKw, tVals, gStar, gCons, gNil, StX.tStar, tFmtS, tFmtI, tM0, tJs, tM1, rNewStrs, tMatch, setAll, lit_to, lit_page, lit_section, lit_gone, lit_exact, lit_open, tSeq, tAsg, tIfS, tRet, tRetN, tDrop, tNext, tNever, tOr, tAnd, tNot, tB, tTest, tCB, tCons, tVar, tC, tNil, tOp, tUn, tIf, tAndV, tOrV, tNotV, tChain, tTup, tLst, tCallR, tMethN, tMakeN, tPropN, tYes, gName, cx_K, cx_P, cx_w, rI0, rI, rEq, rNe, List.getElem?_cons_zero, List.getElem?_cons_succ, List.set_cons_zero, List.set_cons_succ, Option.some.injEq, exists_eq_left', exists_eq_left, V.bl.injEq, V.int.injEq, V.str.injEq, V.ref.injEq, List.cons.injEq, and_true, true_and, exists_and_left, and_assoc, List.append_nil]
  refine ⟨by decide, fun t ht => ?_⟩
  have s1 : Same H (upd H t (.tup [vW sExact, vW sOpen])) := (Same.refl H).nw ht
  refine ⟨t, _, rfl, .inr (SqT.of upd_same), rfl, rfl, true, ?_, iteT ?_⟩
  · cases r.ex <;> rfl
  refine ⟨_, rfl, r.at_, hx.mono s1, ok.at_, fun H2 s2 => ⟨true, rfl, iteT ?_⟩⟩
  exact ⟨_, _, rfl, r.ex, r.an, rfl, hy.mono (s1.trans s2), ok.an, fun H3 s3 => k H3 ((s1.trans s2).trans s3)⟩
end
end K88
set_option maxHeartbeats 4000000
/-! The texts of addresses and rules, written. -/
namespace K88
open PySem PySem.Spec PyProof.Rows L2
theorem T_cat (a b : List Nat) : T a ++ T b = T (a ++ b) := SX.S_cat a b
theorem T_tl (x : Str) : T x.cps.toList = x := SX.S_tl x
theorem T_len (a : List Nat) : (T a).length = a.length := SX.S_len a
theorem vW_map (a : Ad) : a.map vW = (a.map T).map V.str := by
  rw [List.map_map]
  rfl
theorem sz_T {a : List Nat} (h : a.length ≤ 100000) : (T a).length ≤ sizeLine := by
  rw [T_len]
  exact Nat.le_trans h (by decide)
theorem empT : Str.empty = T [] := by decide +kernel
theorem lx_slash : Str.ofString "/" = T [47] := by decide +kernel
theorem lx_star : Str.ofString "/*" = T [47, 42] := by decide +kernel
theorem lx_sp : Str.ofString " " = T [32] := by decide +kernel
theorem lx_to : Str.ofString "to " = T (sTo ++ [32]) := by decide +kernel
theorem lx_for : Str.ofString " for " = T ([32] ++ (sFor ++ [32])) := by decide +kernel
theorem lx_nl : Str.ofString "\n" = T [10] := by decide +kernel
theorem dg_num (n : Nat) : dg n = TL.numL n := TL.tl_num n
theorem dg_len {n : Nat} (h : n < 10 ^ 5) : (dg n).length ≤ 5 := by
  rw [dg_num]
  exact TL.numL_len (by decide) h
theorem dg_len7 {n : Nat} (h : n < 10 ^ 7) : (dg n).length ≤ 7 := by
  rw [dg_num]
  exact TL.numL_len (by decide) h
theorem log_lt {n : Nat} (h : n ≤ 10000000) : ((n : Nat) : Int).natAbs.log2 < 1920 := by
  rw [Int.natAbs_natCast]
  by_cases h0 : n = 0
  · subst h0
    decide
  · exact Nat.lt_of_le_of_lt (Nat.le_of_lt_succ ((Nat.log2_lt h0).mpr (Nat.lt_of_le_of_lt h (by decide : 10000000 < 2 ^ 24)))) (by decide)
theorem tAn_len {ex : Bool} {a : An} (ok : OkAn ex a) : (tAn a).length ≤ 66 := by
  cases a with
  | gone => exact Nat.le_of_ble_eq_true rfl
  | page n =>
    have h1 := ok.2.hi
    simp only [tAn, List.length_append, List.length_cons, List.length_nil, sPage]
    omega
  | «section» n =>
    have h1 := ok.2.hi
    simp only [tAn, List.length_append, List.length_cons, List.length_nil, sSection]
    omega
  | to t d =>
    have h1 := tAd_len ok.1
    have h3 := ok.2
    have h2 : (dg d).length ≤ 5 := dg_len (by omega)
    show (if d = 0 then _ else _ : List Nat).length ≤ 66
    split <;> simp only [List.length_append, List.length_cons, List.length_nil, sTo, sFor] <;> omega
theorem tR_len {r : Ru} (ok : OkR r) : (tR r).length ≤ 122 := by
  have h1 := tPl_len (ex := r.ex) ok.at_
  have h2 := tAn_len ok.an
  simp only [tR, List.length_append, List.length_cons, List.length_nil]
  omega
theorem ixT_at {K : PySem.W.Frag} {H : Hp} {p : Addr} {xs : List V} {i : Nat} {y : V} {Q : VK} (q : SqT K H p xs) (h : xs[i]? = some y) (k : Q y H) : rIxT K (.ref p) (.int (i : Int)) H Q := ⟨p, _, i, y, rfl, rfl, q, atI_nat h, k⟩
theorem num_T (n : Nat) : Str.ofString (toString (n : Int)) = T (dg n) := (T_tl _).symm
section
variable {P : Program} {w : World} {K : PySem.W.Frag} {mg : Str → Option Value} {base : Heap}
abbrev N_address_text : List Str := ["address"]
theorem sc_address_text : FnScope N_address_text ["address"] (defScope s_address_text) := ⟨rfl, rfl, rfl, by decide +kernel, rfl, by decide +kernel, by decide +kernel⟩
theorem st_address_text (x0 : V) : L2.start N_address_text [x0] = [some x0] := rfl
def p_address_text : V → Hp → VK → Prop := fun v H Q => ∃ a, AdAt K H v a ∧ OkA a ∧ RetV H Q (.str (T (tAd a)))
theorem ok_address_text (L : Lw K mg) : FN P w K mg base 1 a_address_text (sp1 (p_address_text (K := K))) := by
  obtain ⟨fd, F⟩ := L.address_text
  refine fn_any F sc_address_text (len1 rfl) (fun _ _ _ _ _ _ us hl => match us, hl with | [_], _ => rfl) fun cdv A outer s H vs Q E hr h => ?_
  obtain ⟨_, rfl, a, ⟨p, rfl, hp⟩, ok, k⟩ := h
  have nd := sc_address_text.nd
  refine ⟨_, (pss_one (ps_ret (pe_op op_add_str pe_str (pe_join pe_str (pv 0))))), ?_⟩
  simp only [tCKw, tVals, gStar, gCons, gNil, StX.tStar, tFmtS, tFmtI, tM0, tJs, tM1, rNewStrs, tMatch, setAll, lit_to, lit_page, lit_section, lit_gone, lit_exact, lit_open, tSeq, tAsg, tIfS, tRet, tRetN, tDrop, tNext, tNever, tOr, tAnd, tNot, tB, tTest, tCB, tCons, tVar, tC, tNil, tOp, tUn, tIf, tAndV, tOrV, tNotV, tChain, tTup, tLst, tCallR, tMethN, tMakeN, tPropN, tYes, gName, cx_K, cx_P, cx_w, rI0, rI, rEq, rNe, List.getElem?_cons_zero, List.getElem?_cons_succ, List.set_cons_zero, List.set_cons_succ, Option.some.injEq, exists_eq_left', exists_eq_left, V.bl.injEq, V.int.injEq, V.str.injEq, V.ref.injEq, List.cons.injEq, and_true, true_and, exists_and_left, and_assoc, List.append_nil, st_address_text]
  rw [vW_map] at hp
  have h1 := sum_len 12 a fun x hx => (ok.ok x hx).hi
  have h2 := ok.hi
  refine ⟨⟨_, rfl⟩, a.map T, .inr hp, ?_, ?_, ?_⟩
  · rw [List.map_map, List.length_map, show (List.map (Str.length ∘ T) a) = a.map List.length from List.map_congr_left fun x _ => T_len x, lx_slash, T_len]
    show (a.map List.length).sum + a.length * 1 ≤ 16777216
    omega
  · rw [lx_slash, SX.join_S, T_len, T_len]
    have h3 := tAd_len ok
    have h4 : (tAd a).length = (TL.joinL [47] a).length + 1 := rfl
    exact Nat.le_trans (show 1 + (TL.joinL [47] a).length ≤ 100 by omega) (by decide)
  · rw [lx_slash, SX.join_S, T_cat]
    exact k H (Same.refl H)
abbrev N_place_text : List Str := ["sort", "place"]
theorem sc_place_text : FnScope N_place_text ["sort", "place"] (defScope s_place_text) := ⟨rfl, rfl, rfl, by decide +kernel, rfl, by decide +kernel, by decide +kernel⟩
theorem st_place_text (x0 x1 : V) : L2.start N_place_text [x0, x1] = [some x0, some x1] := rfl
def p_place_text : V → V → Hp → VK → Prop := fun x v H Q => ∃ ex a, x = vW (sortOf ex) ∧ AdAt K H v a ∧ OkA a ∧ RetV H Q (.str (T (tPl ex a)))
theorem ok_place_text (L : Lw K mg) : FN P w K mg base 2 a_place_text (sp2 (p_place_text (K := K))) := by
  obtain ⟨fd, F⟩ := L.place_text
  refine fn_any F sc_place_text (len2 rfl) (fun _ _ _ _ _ _ us hl => match us, hl with | [_, _], _ => rfl) fun cdv A outer s H vs Q E hr h => ?_
  obtain ⟨_, v, rfl, ex, a, rfl, ha, ok, k⟩ := h
  have nd := sc_place_text.nd
  refine ⟨_, (pss_cons (ps_if (pt_cmpR op_eq (pv 0) pe_str (nomark _)) (pss_one (ps_ret (pe_g (ok_address_text L) (hr.mono (by decide)) rfl L.g_address_text L.address_text.kp (pa_cons (pv 1) pa_nil)))) pss_nil) (pss_one (ps_ret (pe_ifExp (pt_cmpR (op_neD hr.units) (pv 1) (pe_tup pa_nil) (nomark _)) (pe_op op_add_str (pe_g (ok_address_text L) (hr.mono (by decide)) rfl L.g_address_text L.address_text.kp (pa_cons (pv 1) pa_nil)) pe_str) pe_str)))), ?_⟩
  simp only [tCKw, tVals, gStar, gCons, gNil, StX.tStar, tFmtS, tFmtI, tM0, tJs, tM1, rNewStrs, tMatch, setAll, lit_to, lit_page, lit_section, lit_gone, lit_exact, lit_open, tSeq, tAsg, tIfS, tRet, tRetN, tDrop, tNext, tNever, tOr, tAnd, tNot, tB, tTest, tCB, tCons, tVar, tC, tNil, tOp, tUn, tIf, tAndV, tOrV, tNotV, tChain, tTup, tLst, tCallR, tMethN, tMakeN, tPropN, tYes, gName, cx_K, cx_P, cx_w, rI0, rI, rEq, rNe, List.getElem?_cons_zero, List.getElem?_cons_succ, List.set_cons_zero, List.set_cons_succ, Option.some.injEq, exists_eq_left', exists_eq_left, V.bl.injEq, V.int.injEq, V.str.injEq, V.ref.injEq, List.cons.injEq, and_true, true_and, exists_and_left, and_assoc, List.append_nil, st_place_text]
  refine ⟨scal_W, ?_⟩
  rw [dec_W]
  cases ex with
  | true =>
    refine iteT ?_
    exact ⟨_, rfl, a, ha, ok, fun H1 s1 => by
      have e : tPl true a = tAd a := if_pos rfl
      rw [← e]
      exact k H1 s1⟩
  | false =>
    refine iteF ⟨Nat.zero_le _, fun q hq => ?_⟩
    have s1 : Same H (upd H q (.tup [])) := (Same.refl H).nw hq
    refine ⟨dA a, dA [], (ha.mono s1).dp, .tup (SqT.of upd_same) .nil, shaped_A ok.ok, by decide, ?_⟩
    rw [eqv_A]
    by_cases h0 : a = []
    · subst h0
      refine ⟨false, rfl, iteF ?_⟩
      rw [lx_star]
      exact k _ s1
    · rw [decide_eq_false h0]
      refine ⟨true, rfl, iteT ?_⟩
      refine ⟨_, rfl, a, ha.mono s1, ok, fun H2 s2 => ?_⟩
      simp only [tCKw, tVals, gStar, gCons, gNil, StX.tStar, tFmtS, tFmtI, tM0, tJs, tM1, rNewStrs, tMatch, setAll, lit_to, lit_page, lit_section, lit_gone, lit_exact, lit_open, tSeq, tAsg, tIfS, tRet, tRetN, tDrop, tNext, tNever, tOr, tAnd, tNot, tB, tTest, tCB, tCons, tVar, tC, tNil, tOp, tUn, tIf, tAndV, tOrV, tNotV, tChain, tTup, tLst, tCallR, tMethN, tMakeN, tPropN, tYes, gName, cx_K, cx_P, cx_w, rI0, rI, rEq, rNe, List.getElem?_cons_zero, List.getElem?_cons_succ, List.set_cons_zero, List.set_cons_succ, Option.some.injEq, exists_eq_left', exists_eq_left, V.bl.injEq, V.int.injEq, V.str.injEq, V.ref.injEq, List.cons.injEq, and_true, true_and, exists_and_left, and_assoc, List.append_nil]
      have e : tPl false a = tAd a ++ [47, 42] := (if_neg Bool.false_ne_true).trans (if_neg h0)
      have h3 := tAd_len ok
      refine ⟨?_, ?_⟩
      · rw [lx_star, T_len, T_len]
        exact Nat.le_trans (show (tAd a).length + 2 ≤ 100 by omega) (by decide)
      · rw [lx_star, T_cat, ← e]
        exact k H2 (s1.trans s2)
abbrev N_answer_text : List Str := ["answer", "target", "days"]
theorem sc_answer_text : FnScope N_answer_text ["answer"] (defScope s_answer_text) := ⟨rfl, rfl, rfl, by decide +kernel, rfl, by decide +kernel, by decide +kernel⟩
theorem st_answer_text (x0 : V) : L2.start N_answer_text [x0] = [some x0, none, none] := rfl
def p_answer_text : V → Hp → VK → Prop := fun v H Q => ∃ ex a, AnAt K H v a ∧ OkAn ex a ∧ RetV H Q (.str (T (tAn a)))
theorem ok_answer_text (L : Lw K mg) : FN P w K mg base 2 a_answer_text (sp1 (p_answer_text (K := K))) := by
  obtain ⟨fd, F⟩ := L.answer_text
  refine fn_any F sc_answer_text (len1 rfl) (fun _ _ _ _ _ _ us hl => match us, hl with | [_], _ => rfl) fun cdv A outer s H vs Q E hr h => ?_
  obtain ⟨_, rfl, ex, a, ha, ok, k⟩ := h
  have nd := sc_answer_text.nd
  refine ⟨_, (pss_cons (ps_match (pv 0) (pcs_cons (is := [1]) nd (pm_seq rfl (pms_cons (pm_val op_eq pe_str) (pms_cons pm_cap (pms_cons (pm_val op_eq pe_int) pms_nil)))) ⟨rfl, .inl rfl, .inl rfl, trivial⟩ (pss_one (ps_ret (pe_joined (.cons pe_str (.cons (pe_fmtS (pe_g (ok_address_text L) (hr.mono (by decide)) rfl L.g_address_text L.address_text.kp (pa_cons (pv 1) pa_nil))) .nil))))) (pcs_cons (is := [1, 2]) nd (pm_seq rfl (pms_cons (pm_val op_eq pe_str) (pms_cons pm_cap (pms_cons pm_cap pms_nil)))) ⟨rfl, .inl rfl, .inl rfl, rfl, .inl rfl, .inl rfl, trivial⟩ (pss_one (ps_ret (pe_joined (.cons pe_str (.cons (pe_fmtS (pe_g (ok_address_text L) (hr.mono (by decide)) rfl L.g_address_text L.address_text.kp (pa_cons (pv 1) pa_nil))) (.cons pe_str (.cons (pe_fmtI (pv 2)) .nil))))))) pcs_nil))) (pss_one (ps_ret (pe_join pe_str (pv 0))))), ?_⟩
  simp only [tCKw, tVals, gStar, gCons, gNil, StX.tStar, tFmtS, tFmtI, tM0, tJs, tM1, rNewStrs, tMatch, setAll, lit_to, lit_page, lit_section, lit_gone, lit_exact, lit_open, tSeq, tAsg, tIfS, tRet, tRetN, tDrop, tNext, tNever, tOr, tAnd, tNot, tB, tTest, tCB, tCons, tVar, tC, tNil, tOp, tUn, tIf, tAndV, tOrV, tNotV, tChain, tTup, tLst, tCallR, tMethN, tMakeN, tPropN, tYes, gName, cx_K, cx_P, cx_w, rI0, rI, rEq, rNe, List.getElem?_cons_zero, List.getElem?_cons_succ, List.set_cons_zero, List.set_cons_succ, Option.some.injEq, exists_eq_left', exists_eq_left, V.bl.injEq, V.int.injEq, V.str.injEq, V.ref.injEq, List.cons.injEq, and_true, true_and, exists_and_left, and_assoc, List.append_nil, st_answer_text]
  cases a with
  | gone =>
    obtain ⟨p, rfl, q⟩ := ha
    refine case_no (seq_len (.inl q) (nel rfl)) ?_
    refine case_no (seq_len (.inl q) (nel rfl)) ?_
    simp only [tCKw, tVals, gStar, gCons, gNil, StX.tStar, tFmtS, tFmtI, tM0, tJs, tM1, rNewStrs, tMatch, setAll, lit_to, lit_page, lit_section, lit_gone, lit_exact, lit_open, tSeq, tAsg, tIfS, tRet, tRetN, tDrop, tNext, tNever, tOr, tAnd, tNot, tB, tTest, tCB, tCons, tVar, tC, tNil, tOp, tUn, tIf, tAndV, tOrV, tNotV, tChain, tTup, tLst, tCallR, tMethN, tMakeN, tPropN, tYes, gName, cx_K, cx_P, cx_w, rI0, rI, rEq, rNe, List.getElem?_cons_zero, List.getElem?_cons_succ, List.set_cons_zero, List.set_cons_succ, Option.some.injEq, exists_eq_left', exists_eq_left, V.bl.injEq, V.int.injEq, V.str.injEq, V.ref.injEq, List.cons.injEq, and_true, true_and, exists_and_left, and_assoc, List.append_nil, tCNil]
    refine ⟨⟨_, rfl⟩, [T sGone], .inr q, ?_, ?_⟩
    · exact Nat.le_of_ble_eq_true (by decide +kernel)
    · rw [lx_sp, show Txt.join (T [32]) [T sGone] = T (TL.joinL [32] [sGone]) from SX.join_S [32] [sGone]]
      exact k H (Same.refl H)
  | page n =>
    obtain ⟨p, rfl, q⟩ := ha
    refine case_no (seq_len (.inl q) (nel rfl)) ?_
    refine case_no (seq_len (.inl q) (nel rfl)) ?_
    simp only [tCKw, tVals, gStar, gCons, gNil, StX.tStar, tFmtS, tFmtI, tM0, tJs, tM1, rNewStrs, tMatch, setAll, lit_to, lit_page, lit_section, lit_gone, lit_exact, lit_open, tSeq, tAsg, tIfS, tRet, tRetN, tDrop, tNext, tNever, tOr, tAnd, tNot, tB, tTest, tCB, tCons, tVar, tC, tNil, tOp, tUn, tIf, tAndV, tOrV, tNotV, tChain, tTup, tLst, tCallR, tMethN, tMakeN, tPropN, tYes, gName, cx_K, cx_P, cx_w, rI0, rI, rEq, rNe, List.getElem?_cons_zero, List.getElem?_cons_succ, List.set_cons_zero, List.set_cons_succ, Option.some.injEq, exists_eq_left', exists_eq_left, V.bl.injEq, V.int.injEq, V.str.injEq, V.ref.injEq, List.cons.injEq, and_true, true_and, exists_and_left, and_assoc, List.append_nil, tCNil]
    refine ⟨⟨_, rfl⟩, [T sPage, T n], .inr q, ?_, ?_⟩
    · have h1 := ok.2.hi
      rw [lx_sp]
      show (T sPage).length + ((T n).length + 0) + 2 * (T [32]).length ≤ _
      rw [T_len, T_len, T_len]
      show 4 + (n.length + 0) + 2 * 1 ≤ 16777216
      omega
    · rw [lx_sp, show Txt.join (T [32]) [T sPage, T n] = T (TL.joinL [32] [sPage, n]) from SX.join_S [32] [sPage, n]]
      exact k H (Same.refl H)
  | «section» n =>
    obtain ⟨p, rfl, q⟩ := ha
    refine case_no (seq_len (.inl q) (nel rfl)) ?_
    refine case_no (seq_len (.inl q) (nel rfl)) ?_
    simp only [tCKw, tVals, gStar, gCons, gNil, StX.tStar, tFmtS, tFmtI, tM0, tJs, tM1, rNewStrs, tMatch, setAll, lit_to, lit_page, lit_section, lit_gone, lit_exact, lit_open, tSeq, tAsg, tIfS, tRet, tRetN, tDrop, tNext, tNever, tOr, tAnd, tNot, tB, tTest, tCB, tCons, tVar, tC, tNil, tOp, tUn, tIf, tAndV, tOrV, tNotV, tChain, tTup, tLst, tCallR, tMethN, tMakeN, tPropN, tYes, gName, cx_K, cx_P, cx_w, rI0, rI, rEq, rNe, List.getElem?_cons_zero, List.getElem?_cons_succ, List.set_cons_zero, List.set_cons_succ, Option.some.injEq, exists_eq_left', exists_eq_left, V.bl.injEq, V.int.injEq, V.str.injEq, V.ref.injEq, List.cons.injEq, and_true, true_and, exists_and_left, and_assoc, List.append_nil, tCNil]
    refine ⟨⟨_, rfl⟩, [T sSection, T n], .inr q, ?_, ?_⟩
    · have h1 := ok.2.hi
      rw [lx_sp]
      show (T sSection).length + ((T n).length + 0) + 2 * (T [32]).length ≤ _
      rw [T_len, T_len, T_len]
      show 7 + (n.length + 0) + 2 * 1 ≤ 16777216
      omega
    · rw [lx_sp, show Txt.join (T [32]) [T sSection, T n] = T (TL.joinL [32] [sSection, n]) from SX.join_S [32] [sSection, n]]
      exact k H (Same.refl H)
  | to t d =>
    obtain ⟨p, u, rfl, q, ha⟩ := ha
    obtain ⟨okt, hd⟩ := ok
    by_cases h0 : d = 0
    · subst h0
      refine case_yes (seq_yes (.inl q) rfl (pcons_yes (val_yes scal_W rfl) (pcons_yes cap_yes (pcons_yes (val_yes rfl rfl) pnil)))) ?_
      simp only [tCKw, tVals, gStar, gCons, gNil, StX.tStar, tFmtS, tFmtI, tM0, tJs, tM1, rNewStrs, tMatch, setAll, lit_to, lit_page, lit_section, lit_gone, lit_exact, lit_open, tSeq, tAsg, tIfS, tRet, tRetN, tDrop, tNext, tNever, tOr, tAnd, tNot, tB, tTest, tCB, tCons, tVar, tC, tNil, tOp, tUn, tIf, tAndV, tOrV, tNotV, tChain, tTup, tLst, tCallR, tMethN, tMakeN, tPropN, tYes, gName, cx_K, cx_P, cx_w, rI0, rI, rEq, rNe, List.getElem?_cons_zero, List.getElem?_cons_succ, List.set_cons_zero, List.set_cons_succ, Option.some.injEq, exists_eq_left', exists_eq_left, V.bl.injEq, V.int.injEq, V.str.injEq, V.ref.injEq, List.cons.injEq, and_true, true_and, exists_and_left, and_assoc, List.append_nil, List.nil_append, List.cons_append]
      have h1 := tAd_len okt
      simp only [lx_to, empT, T_cat, List.nil_append]
      refine ⟨sz_T (Nat.le_of_ble_eq_true rfl), _, rfl, t, ha, okt, fun H1 s1 => ⟨_, rfl, ?_⟩⟩
      simp only [T_cat]
      refine ⟨sz_T (by omega), sz_T (by simp only [List.length_append, List.length_cons, List.length_nil, sTo]; omega), ?_⟩
      rw [List.append_assoc]
      exact k H1 s1
    · have hv : V.int (d : Int) ≠ V.int 0 := fun e => h0 (by injection e; omega)
      refine case_no (seq_no (.inl q) rfl (pcons_no2 (val_yes scal_W rfl) (pcons_no2 cap_yes (pcons_no1 (val_no rfl hv))))) ?_
      refine case_yes (seq_yes (.inl q) rfl (pcons_yes (val_yes scal_W rfl) (pcons_yes cap_yes (pcons_yes cap_yes pnil)))) ?_
      simp only [tCKw, tVals, gStar, gCons, gNil, StX.tStar, tFmtS, tFmtI, tM0, tJs, tM1, rNewStrs, tMatch, setAll, lit_to, lit_page, lit_section, lit_gone, lit_exact, lit_open, tSeq, tAsg, tIfS, tRet, tRetN, tDrop, tNext, tNever, tOr, tAnd, tNot, tB, tTest, tCB, tCons, tVar, tC, tNil, tOp, tUn, tIf, tAndV, tOrV, tNotV, tChain, tTup, tLst, tCallR, tMethN, tMakeN, tPropN, tYes, gName, cx_K, cx_P, cx_w, rI0, rI, rEq, rNe, List.getElem?_cons_zero, List.getElem?_cons_succ, List.set_cons_zero, List.set_cons_succ, Option.some.injEq, exists_eq_left', exists_eq_left, V.bl.injEq, V.int.injEq, V.str.injEq, V.ref.injEq, List.cons.injEq, and_true, true_and, exists_and_left, and_assoc, List.append_nil, List.nil_append, List.cons_append]
      have h1 := tAd_len okt
      have h2 : (dg d).length ≤ 5 := dg_len (by omega)
      simp only [lx_to, lx_for, empT, T_cat, List.nil_append, num_T]
      refine ⟨sz_T (Nat.le_of_ble_eq_true rfl), _, rfl, t, ha, okt, fun H1 s1 => ⟨_, rfl, ?_⟩⟩
      simp only [T_cat]
      refine ⟨sz_T (by omega), sz_T ?_, sz_T ?_, ?_, sz_T ?_, ?_⟩
      · simp only [List.length_append, List.length_cons, List.length_nil, sTo]; omega
      · simp only [List.length_append, List.length_cons, List.length_nil, sTo, sFor]; omega
      · exact log_lt (by omega)
      · simp only [List.length_append, List.length_cons, List.length_nil, sTo, sFor]; omega
      · have e : tAn (.to t d) = sTo ++ ([32] ++ (tAd t ++ ([32] ++ (sFor ++ ([32] ++ dg d))))) := if_neg h0
        rw [e] at k
        simp only [List.append_assoc]
        exact k H1 s1
abbrev N_rule_text : List Str := ["rule"]
theorem sc_rule_text : FnScope N_rule_text ["rule"] (defScope s_rule_text) := ⟨rfl, rfl, rfl, by decide +kernel, rfl, by decide +kernel, by decide +kernel⟩
theorem st_rule_text (x0 : V) : L2.start N_rule_text [x0] = [some x0] := rfl
def p_rule_text : V → Hp → VK → Prop := fun v H Q => ∃ r, RuAt K H v r ∧ OkR r ∧ RetV H Q (.str (T (tR r)))
theorem ok_rule_text (L : Lw K mg) : FN P w K mg base 3 a_rule_text (sp1 (p_rule_text (K := K))) := by
  obtain ⟨fd, F⟩ := L.rule_text
  refine fn_any F sc_rule_text (len1 rfl) (fun _ _ _ _ _ _ us hl => match us, hl with | [_], _ => rfl) fun cdv A outer s H vs Q E hr h => ?_
  obtain ⟨_, rfl, r, ⟨p, x, y, rfl, q, hx, hy⟩, ok, k⟩ := h
  have nd := sc_rule_text.nd
  refine ⟨_, (pss_one (ps_ret (pe_joined (.cons (pe_fmtS (pe_g (ok_place_text L) (hr.mono (by decide)) rfl L.g_place_text L.place_text.kp (pa_cons (pe_ix (ix_tupK (K := K) rfl) (pv 0) pe_int (fun _ _ => rfl)) (pa_cons (pe_ix (ix_tupK (K := K) rfl) (pv 0) pe_int (fun _ _ => rfl)) pa_nil)))) (.cons pe_str (.cons (pe_fmtS (pe_g (ok_answer_text L) (hr.mono (by decide)) rfl L.g_answer_text L.answer_text.kp (pa_cons (pe_ix (ix_tupK (K := K) rfl) (pv 0) pe_int (fun _ _ => rfl)) pa_nil))) .nil)))))), ?_⟩
  simp only [tCKw, tVals, gStar, gCons, gNil, StX.tStar, tFmtS, tFmtI, tM0, tJs, tM1, rNewStrs, tMatch, setAll, lit_to, lit_page, lit_section, lit_gone, lit_exact, lit_open, tSeq, tAsg, tIfS, tRet, tRetN, tDrop, tNext, tNever, tOr, tAnd, tNot, tB, tTest, tCB, tCons, tVar, tC, tNil, tOp, tUn, tIf, tAndV, tOrV, tNotV, tChain, tTup, tLst, tCallR, tMethN, tMakeN, tPropN, tYes, gName, cx_K, cx_P, cx_w, rI0, rI, rEq, rNe, List.getElem?_cons_zero, List.getElem?_cons_succ, List.set_cons_zero, List.set_cons_succ, Option.some.injEq, exists_eq_left', exists_eq_left, V.bl.injEq, V.int.injEq, V.str.injEq, V.ref.injEq, List.cons.injEq, and_true, true_and, exists_and_left, and_assoc, List.append_nil, st_rule_text]
  refine ixT_at (i := 0) q rfl (ixT_at (i := 1) q rfl ?_)
  refine ⟨_, _, rfl, r.ex, r.at_, rfl, hx, ok.at_, fun H1 s1 => ⟨_, rfl, ?_⟩⟩
  have h1 := tPl_len (ex := r.ex) ok.at_
  have h2 := tAn_len ok.an
  simp only [lx_sp, empT, T_cat, List.nil_append]
  refine ⟨sz_T (by omega), sz_T (by omega), sz_T ?_, ?_⟩
  · simp only [List.length_append, List.length_cons, List.length_nil]; omega
  refine ixT_at (i := 2) (s1.sqt q) rfl ?_
  refine ⟨_, rfl, r.ex, r.an, hy.mono s1, ok.an, fun H2 s2 => ⟨_, rfl, ?_⟩⟩
  simp only [T_cat]
  refine ⟨sz_T (by omega), sz_T ?_, ?_⟩
  · simp only [List.length_append, List.length_cons, List.length_nil]; omega
  rw [List.append_assoc]
  exact k H2 (s1.trans s2)
end
end K88
set_option maxHeartbeats 4000000
/-! The texts of addresses and rules, read. -/
namespace K88
open PySem PySem.Spec PyProof.Rows L2
theorem dg_ne (n : Nat) : dg n ≠ [] := by
  rw [dg_num]
  exact TL.numL_ne n
theorem dg_dig (n : Nat) : ∀ c ∈ dg n, 48 ≤ c ∧ c ≤ 57 := by
  rw [dg_num]
  exact TL.numL_digits n
theorem dg_int {n : Nat} (h : n ≤ 1000000) : intText? (T (dg n)) = some (n : Int) := by
  rw [← num_T]
  exact TL.int_num (by rw [← dg_num]; exact Nat.le_trans (dg_len7 (by omega)) (by decide))
theorem starts_T (a b : List Nat) : Txt.startswith (T (a ++ b)) (T a) = true := by
  rw [← T_cat]
  exact PySem.W.KT.starts_app _ _
theorem ends_T (a b : List Nat) : Txt.endswith (T (a ++ b)) (T b) = true := by
  rw [← T_cat]
  exact PySem.W.KT.ends_app _ _
theorem ends_free {a : List Nat} (h : 42 ∉ a) : Txt.endswith (T a) (T [47, 42]) = false := by
  refine Bool.eq_false_iff.mpr fun e => h ?_
  unfold Txt.endswith at e
  rw [Bool.and_eq_true, StrLaws.subAt_eq] at e
  have e2 := beq_iff_eq.mp e.2
  have h2 : 42 ∈ (T [47, 42]).cps.toList := by decide +kernel
  rw [← e2] at h2
  exact List.mem_of_mem_drop (List.mem_of_mem_take h2)
theorem slice_but2 (a : List Nat) (b c : Nat) : Txt.slice (T (a ++ [b, c])) none (some (-2)) = T a := by
  rw [← C8.cutS_slice]
  refine TL.ext_tl ?_
  show (List.drop 0 (a ++ [b, c])).take (HT.sIx (T (a ++ [b, c])).length (T (a ++ [b, c])).length (some (-2)) - 0) = a
  rw [T_len, List.length_append, List.drop_zero]
  show (a ++ [b, c]).take ((-2 + ((a.length + 2 : Nat) : Int)).toNat - 0) = a
  rw [show (-2 + ((a.length + 2 : Nat) : Int)).toNat - 0 = a.length by omega, List.take_left]
theorem OkW.ne {w : Wd} (h : OkW w) : w ≠ [] := fun e => by
  have := h.lo
  rw [e] at this
  cases this
theorem OkW.free {w : Wd} (h : OkW w) {c : Nat} (hc : c < 97) : c ∉ w := fun m => by
  have := (h.az c m).1
  omega
theorem joinL_free {c : Nat} {sep : List Nat} (hs : c ∉ sep) : ∀ {a : List (List Nat)}, (∀ w ∈ a, c ∉ w) → c ∉ TL.joinL sep a
  | [], _, m => nomatch m
  | [w], h, m => h w (List.mem_cons_self ..) m
  | w :: x :: r, h, m => by
    rcases List.mem_append.mp (show c ∈ w ++ (sep ++ TL.joinL sep (x :: r)) from m) with m | m
    · exact h w (List.mem_cons_self ..) m
    · rcases List.mem_append.mp m with m | m
      · exact hs m
      · exact joinL_free hs (fun z hz => h z (List.mem_cons_of_mem _ hz)) m
theorem tAd_free {a : Ad} (ok : OkA a) {c : Nat} (hc : c < 97) (h7 : c ≠ 47) : c ∉ tAd a := fun m => by
  rcases List.mem_cons.mp m with m | m
  · exact h7 m
  · exact joinL_free (fun m => h7 (List.mem_singleton.mp m)) (fun w hw => (ok.ok w hw).free hc) m
theorem tAd_spl {a : Ad} (ok : OkA a) (h : a ≠ []) : TL.spl [47] 0 [] (TL.joinL [47] a) = a := TL.spl_join h fun w hw => (ok.ok w hw).free (by decide)
theorem tAd_ne {a : Ad} (ok : OkA a) (h : a ≠ []) : tAd a ≠ [47] := fun e => by
  have e2 : TL.joinL [47] a = [] := (List.cons.inj e).2
  have e3 := tAd_spl ok h
  rw [e2] at e3
  have e4 : ([[]] : Ad) = a := e3
  have := (ok.ok [] (by rw [← e4]; exact List.mem_cons_self ..)).lo
  cases this
theorem lit_for : V.str (Str.ofString "for") = vW sFor := by decide +kernel
/-- the words of an answer -/
def wAn : An → List (List Nat)
  | .gone => [sGone]
  | .page n => [sPage, n]
  | .section n => [sSection, n]
  | .to t d => if d = 0 then [sTo, tAd t] else [sTo, tAd t, sFor, dg d]
theorem tAn_join (a : An) : tAn a = TL.joinL [32] (wAn a) := by
  cases a with
  | gone => rfl
  | page n => rfl
  | «section» n => rfl
  | to t d =>
    by_cases h : d = 0
    · rw [show wAn (.to t d) = [sTo, tAd t] from if_pos h]
      exact if_pos h
    · rw [show wAn (.to t d) = [sTo, tAd t, sFor, dg d] from if_neg h]
      exact if_neg h
theorem wAn_free {ex : Bool} {a : An} (ok : OkAn ex a) : ∀ w ∈ wAn a, 32 ∉ w := by
  cases a with
  | gone =>
    intro w hw
    rw [List.mem_singleton.mp hw]
    decide
  | page n =>
    intro w hw
    rcases List.mem_cons.mp hw with rfl | hw
    · decide
    · rw [List.mem_singleton.mp hw]
      exact ok.2.free (by decide)
  | «section» n =>
    intro w hw
    rcases List.mem_cons.mp hw with rfl | hw
    · decide
    · rw [List.mem_singleton.mp hw]
      exact ok.2.free (by decide)
  | to t d =>
    have ht := tAd_free ok.1 (c := 32) (by decide) (by decide)
    by_cases h : d = 0
    · rw [show wAn (.to t d) = [sTo, tAd t] from if_pos h]
      intro w hw
      rcases List.mem_cons.mp hw with rfl | hw
      · decide
      · rw [List.mem_singleton.mp hw]
        exact ht
    · rw [show wAn (.to t d) = [sTo, tAd t, sFor, dg d] from if_neg h]
      intro w hw
      rcases List.mem_cons.mp hw with rfl | hw
      · decide
      · rcases List.mem_cons.mp hw with rfl | hw
        · exact ht
        · rcases List.mem_cons.mp hw with rfl | hw
          · decide
          · rw [List.mem_singleton.mp hw]
            intro m
            have := (dg_dig d 32 m).1
            omega
theorem wAn_ne (a : An) : wAn a ≠ [] := by
  cases a with
  | to t d =>
    unfold wAn
    dsimp only
    split <;> exact List.cons_ne_nil _ _
  | _ => exact List.cons_ne_nil _ _
theorem wAn_len (a : An) : (wAn a).length ≤ 4 := by
  cases a with
  | to t d =>
    unfold wAn
    dsimp only
    split <;> exact Nat.le_of_ble_eq_true rfl
  | _ => exact Nat.le_of_ble_eq_true rfl
theorem joinL_cons {sep x : List Nat} : ∀ {ls : List (List Nat)}, ls ≠ [] → TL.joinL sep (x :: ls) = x ++ (sep ++ TL.joinL sep ls)
  | [], h => absurd rfl h
  | _ :: _, _ => rfl
theorem tR_join (r : Ru) : tR r = TL.joinL [32] (tPl r.ex r.at_ :: wAn r.an) := by
  rw [joinL_cons (wAn_ne _), ← tAn_join] <;> rfl
theorem tPl_free {ex : Bool} {a : Ad} (ok : OkA a) : 32 ∉ tPl ex a := by
  have ht := tAd_free ok (c := 32) (by decide) (by decide)
  unfold tPl
  split
  · exact ht
  · split
    · decide
    · intro m
      rcases List.mem_append.mp m with m | m
      · exact ht m
      · revert m
        decide
theorem tR_spl {r : Ru} (ok : OkR r) : Txt.split (T (tR r)) (T [32]) = (tPl r.ex r.at_ :: wAn r.an).map T := by
  rw [SX.split_S (by decide) (by decide), tR_join, TL.spl_join (List.cons_ne_nil _ _) fun p hp => ?_]
  rcases List.mem_cons.mp hp with rfl | hp
  · exact tPl_free ok.at_
  · exact wAn_free ok.an p hp
section
variable {P : Program} {w : World} {K : PySem.W.Frag} {mg : Str → Option Value} {base : Heap}
abbrev N_figure : List Str := ["text", "sign"]
theorem sc_figure : FnScope N_figure ["text"] (defScope s_figure) := ⟨rfl, rfl, rfl, by decide +kernel, rfl, by decide +kernel, by decide +kernel⟩
theorem st_figure (x0 : V) : L2.start N_figure [x0] = [some x0, none] := rfl
def p_figure : V → Hp → VK → Prop := fun v H Q => ∃ n : Nat, v = .str (T (dg n)) ∧ n ≤ 1000000 ∧ RetV H Q (.int (n : Int))
theorem ok_figure (L : Lw K mg) : FN P w K mg base 1 a_figure (sp1 p_figure) := by
  obtain ⟨fd, F⟩ := L.figure
  refine fn_any F sc_figure (len1 rfl) (fun _ _ _ _ _ _ us hl => match us, hl with | [_], _ => rfl) fun cdv A outer s H vs Q E hr h => ?_
  obtain ⟨_, rfl, n, rfl, hn, k⟩ := h
  have nd := sc_figure.nd
  refine ⟨_, (pss_cons (ps_if (PW.pt (pw_or (pt_not (pt_chain op_le op_le pe_int (pe_callB call_len (by rfl) L.z_len (by decide +kernel) (pa_cons (pv 0) pa_nil)) pe_int)) (pw_or1 (pt_not (pt_val (pe_callB (cr_all rfl) (by rfl) L.z_all (by decide +kernel) (pa_cons (pe_lc (own := [("sign", 1)]) (g := gName 1) rfl nd (pi_str (pv 0)) (blkOk_by (N := N_figure) (sc := defScope s_figure) (by decide +kernel)) (fun _ _ _ _ _ => (pg_name (i := 1) nd rfl (Or.inl rfl))) (fun _ _ _ _ _ => pts_nil) (fun _ _ _ _ _ => (pe_cmpR op_in_sign (pv 1) (pe_gs L.s_DIGITS rfl) (by rfl)))) pa_nil))))))) (pss_one (ps_ret pe_non)) pss_nil) (pss_one (ps_ret (pe_ifExp (pt_cmpR op_eq (pv 0) (pe_callTy call_str_int (by rfl) L.z_str (by decide +kernel) (pa_cons (pe_callTy call_int_str (by rfl) L.z_int (by decide +kernel) (pa_cons (pv 0) pa_nil)) pa_nil)) (nomark _)) (pe_callTy call_int_str (by rfl) L.z_int (by decide +kernel) (pa_cons (pv 0) pa_nil)) pe_non)))), ?_⟩
  have h1 := dg_len7 (n := n) (by omega)
  have h0 : 1 ≤ (dg n).length := Nat.pos_of_ne_zero fun e => dg_ne n (List.length_eq_zero_iff.mp e)
  have hz : (T (dg n)).length ≤ sizeLine := sz_T (by omega)
  have hi := dg_int hn
  have h6 : (T (dg n)).length ≤ 640 := by rw [T_len]; omega
  simp only [tCKw, tVals, gStar, gCons, gNil, StX.tStar, tFmtS, tFmtI, tM0, tJs, tM1, rNewStrs, tMatch, setAll, lit_to, lit_page, lit_section, lit_gone, lit_exact, lit_open, tAsg, tRet, tRetN, tDrop, tNext, tNever, tNot, tB, tTest, tCB, tCons, tVar, tC, tNil, tOp, tUn, tAndV, tOrV, tNotV, tChain, tTup, tLst, tCallR, tMethN, tMakeN, tPropN, tYes, gName, cx_K, cx_P, cx_w, rI0, rI, rEq, rNe, List.getElem?_cons_zero, List.getElem?_cons_succ, List.set_cons_zero, List.set_cons_succ, Option.some.injEq, exists_eq_left', exists_eq_left, V.bl.injEq, V.int.injEq, V.str.injEq, V.ref.injEq, List.cons.injEq, and_true, true_and, exists_and_left, and_assoc, List.append_nil, st_figure]
  refine sif_nx (fun R r => ?_) fun H1 s1 => ?_
  · simp only [tCKw, tVals, gStar, gCons, gNil, StX.tStar, tFmtS, tFmtI, tM0, tJs, tM1, rNewStrs, tMatch, setAll, lit_to, lit_page, lit_section, lit_gone, lit_exact, lit_open, tSeq, tAsg, tIfS, tRet, tRetN, tDrop, tNext, tNever, tOr, tAnd, tNot, tB, tTest, tCB, tCons, tVar, tC, tNil, tOp, tUn, tIf, tAndV, tOrV, tNotV, tChain, tTup, tLst, tCallR, tMethN, tMakeN, tPropN, tYes, gName, cx_K, cx_P, cx_w, rI0, rI, rEq, rNe, List.getElem?_cons_zero, List.getElem?_cons_succ, List.set_cons_zero, List.set_cons_succ, Option.some.injEq, exists_eq_left', exists_eq_left, V.bl.injEq, V.int.injEq, V.str.injEq, V.ref.injEq, List.cons.injEq, and_true, true_and, exists_and_left, and_assoc, List.append_nil]
    refine ⟨_, ⟨hz, rfl⟩, ?_⟩
    rw [T_len, if_pos (decide_eq_true (by omega)), decide_eq_true (by omega), if_neg (by decide)]
    refine tLc_name walk_str (fun R h => ⟨_, rfl, _, rfl, h⟩) (Nat.le_trans h6 (by decide)) (fun _ y _ => y = .bl true) (fun _ _ _ _ _ e => e) (fun _ _ => trivial) (fun _ => rfl) (fun i x H1 H' Q' hi s1 y k => ?_) fun D ys H' hD hl hp s1 e => ?_
    · obtain ⟨rfl, c, hc, rfl⟩ := y
      simp only [tCKw, tVals, gStar, gCons, gNil, StX.tStar, tFmtS, tFmtI, tM0, tJs, tM1, rNewStrs, tMatch, setAll, lit_to, lit_page, lit_section, lit_gone, lit_exact, lit_open, tSeq, tAsg, tIfS, tRet, tRetN, tDrop, tNext, tNever, tOr, tAnd, tNot, tB, tTest, tCB, tCons, tVar, tC, tNil, tOp, tUn, tIf, tAndV, tOrV, tNotV, tChain, tTup, tLst, tCallR, tMethN, tMakeN, tPropN, tYes, gName, cx_K, cx_P, cx_w, rI0, rI, rEq, rNe, List.getElem?_cons_zero, List.getElem?_cons_succ, List.set_cons_zero, List.set_cons_succ, Option.some.injEq, exists_eq_left', exists_eq_left, V.bl.injEq, V.int.injEq, V.str.injEq, V.ref.injEq, List.cons.injEq, and_true, true_and, exists_and_left, and_assoc, List.append_nil]
      refine ⟨_, rfl, c, rfl, ?_⟩
      have hm : c ∈ dg n := by
        have h3 : (dg n)[i]? = some c := by simpa using hc
        exact List.mem_of_getElem? h3
      have hz : c ∈ (Str.ofString "0123456789").cps.toList := by
        have h4 := dg_dig n c hm
        have e : (Str.ofString "0123456789").cps.toList = List.range' 48 10 := by decide +kernel
        rw [e]
        exact List.mem_range'_1.mpr ⟨h4.1, by omega⟩
      rw [decide_eq_true hz]
      exact k _ _ (Same.refl _) rfl
    · refine all_true e hp ?_
      exact ⟨true, rfl, r H' s1⟩
  · refine ife_yes (fun R r => ?_) fun H2 s2 => ?_
    · simp only [tCKw, tVals, gStar, gCons, gNil, StX.tStar, tFmtS, tFmtI, tM0, tJs, tM1, rNewStrs, tMatch, setAll, lit_to, lit_page, lit_section, lit_gone, lit_exact, lit_open, tSeq, tAsg, tIfS, tRet, tRetN, tDrop, tNext, tNever, tOr, tAnd, tNot, tB, tTest, tCB, tCons, tVar, tC, tNil, tOp, tUn, tIf, tAndV, tOrV, tNotV, tChain, tTup, tLst, tCallR, tMethN, tMakeN, tPropN, tYes, gName, cx_K, cx_P, cx_w, rI0, rI, rEq, rNe, List.getElem?_cons_zero, List.getElem?_cons_succ, List.set_cons_zero, List.set_cons_succ, Option.some.injEq, exists_eq_left', exists_eq_left, V.bl.injEq, V.int.injEq, V.str.injEq, V.ref.injEq, List.cons.injEq, and_true, true_and, exists_and_left, and_assoc, List.append_nil]
      refine ⟨_, hi, h6, log_lt (by omega), rfl, ?_⟩
      rw [num_T, decide_eq_true rfl]
      exact r H1 (Same.refl _)
    · simp only [tCKw, tVals, gStar, gCons, gNil, StX.tStar, tFmtS, tFmtI, tM0, tJs, tM1, rNewStrs, tMatch, setAll, lit_to, lit_page, lit_section, lit_gone, lit_exact, lit_open, tSeq, tAsg, tIfS, tRet, tRetN, tDrop, tNext, tNever, tOr, tAnd, tNot, tB, tTest, tCB, tCons, tVar, tC, tNil, tOp, tUn, tIf, tAndV, tOrV, tNotV, tChain, tTup, tLst, tCallR, tMethN, tMakeN, tPropN, tYes, gName, cx_K, cx_P, cx_w, rI0, rI, rEq, rNe, List.getElem?_cons_zero, List.getElem?_cons_succ, List.set_cons_zero, List.set_cons_succ, Option.some.injEq, exists_eq_left', exists_eq_left, V.bl.injEq, V.int.injEq, V.str.injEq, V.ref.injEq, List.cons.injEq, and_true, true_and, exists_and_left, and_assoc, List.append_nil]
      exact ⟨_, hi, h6, k H2 (s1.trans s2)⟩
abbrev N_read_address : List Str := ["text", "found"]
theorem sc_read_address : FnScope N_read_address ["text"] (defScope s_read_address) := ⟨rfl, rfl, rfl, by decide +kernel, rfl, by decide +kernel, by decide +kernel⟩
theorem st_read_address (x0 : V) : L2.start N_read_address [x0] = [some x0, none] := rfl
def p_read_address : V → Hp → VK → Prop := fun v H Q => ∃ a, v = .str (T (tAd a)) ∧ OkA a ∧ ∀ p H', Same H H' → SqT K H' p (a.map vW) → Q (.ref p) H'
theorem ok_read_address (L : Lw K mg) : FN P w K mg base 3 a_read_address (sp1 (p_read_address (K := K))) := by
  obtain ⟨fd, F⟩ := L.read_address
  refine fn_any F sc_read_address (len1 rfl) (fun _ _ _ _ _ _ us hl => match us, hl with | [_], _ => rfl) fun cdv A outer s H vs Q E hr h => ?_
  obtain ⟨_, rfl, a, rfl, ok, k⟩ := h
  have nd := sc_read_address.nd
  refine ⟨_, (pss_cons (ps_if (PW.pt (pw_or (pt_not (pt_val (pe_callB call_isi (by rfl) L.z_isinstance (by decide +kernel) (pa_cons (pv 0) (pa_cons (pe_bltn (v := .ty "str") (by rfl) L.z_str (by decide +kernel) rfl) pa_nil))))) (pw_or1 (pt_not (pt_val (pe_m1 PySem.F.slot_str_startswith PySem.F.type_str_startswith mt_startswith (pv 0) pe_str)))))) (pss_one ps_never) pss_nil) (pss_cons (ps_set (i := 1) nd rfl (Or.inl rfl) (pe_ifExp (pt_cmpR op_ne (pv 0) pe_str (nomark _)) (pe_callTy call_tuple_of (by rfl) L.z_tuple (by decide +kernel) (pa_cons (pe_split (pe_slice C8.sl_txt (pv 0) (po_some pe_int) po_none) pe_str) pa_nil)) (pe_tup pa_nil))) (pss_cons (ps_if (pt_not (pt_val (pe_g (ok_is_address L) (hr.mono (by decide)) rfl L.g_is_address L.is_address.kp (pa_cons (pv 1) pa_nil)))) (pss_one ps_never) pss_nil) (pss_one (ps_ret (pv 1)))))), ?_⟩
  simp only [tCKw, tVals, gStar, gCons, gNil, StX.tStar, tFmtS, tFmtI, tM0, tJs, tM1, rNewStrs, tMatch, setAll, lit_to, lit_page, lit_section, lit_gone, lit_exact, lit_open, tAsg, tRet, tRetN, tDrop, tNext, tNever, tNot, tB, tTest, tCB, tCons, tVar, tC, tNil, tOp, tUn, tAndV, tOrV, tNotV, tChain, tTup, tLst, tCallR, tMethN, tMakeN, tPropN, tYes, gName, cx_K, cx_P, cx_w, rI0, rI, rEq, rNe, List.getElem?_cons_zero, List.getElem?_cons_succ, List.set_cons_zero, List.set_cons_succ, Option.some.injEq, exists_eq_left', exists_eq_left, V.bl.injEq, V.int.injEq, V.str.injEq, V.ref.injEq, List.cons.injEq, and_true, true_and, exists_and_left, and_assoc, List.append_nil, st_read_address]
  have h1 := tAd_len ok
  have hz : (T (tAd a)).length ≤ sizeLine := sz_T (by omega)
  refine sif_nx (fun R r => ?_) fun H1 s1 => ?_
  · simp only [tCKw, tVals, gStar, gCons, gNil, StX.tStar, tFmtS, tFmtI, tM0, tJs, tM1, rNewStrs, tMatch, setAll, lit_to, lit_page, lit_section, lit_gone, lit_exact, lit_open, tSeq, tAsg, tIfS, tRet, tRetN, tDrop, tNext, tNever, tOr, tAnd, tNot, tB, tTest, tCB, tCons, tVar, tC, tNil, tOp, tUn, tIf, tAndV, tOrV, tNotV, tChain, tTup, tLst, tCallR, tMethN, tMakeN, tPropN, tYes, gName, cx_K, cx_P, cx_w, rI0, rI, rEq, rNe, List.getElem?_cons_zero, List.getElem?_cons_succ, List.set_cons_zero, List.set_cons_succ, Option.some.injEq, exists_eq_left', exists_eq_left, V.bl.injEq, V.int.injEq, V.str.injEq, V.ref.injEq, List.cons.injEq, and_true, true_and, exists_and_left, and_assoc, List.append_nil]
    refine isi_ty (.base (.str _)) kb_ss ⟨true, rfl, ⟨_, rfl⟩, ?_⟩
    rw [lx_slash, show Txt.startswith (T (tAd a)) (T [47]) = true from starts_T [47] _]
    exact r H (Same.refl _)
  · refine sasg ?_
    by_cases h0 : a = []
    · subst h0
      refine ife_no (fun R r => ?_) fun H2 s2 => ?_
      · simp only [tCKw, tVals, gStar, gCons, gNil, StX.tStar, tFmtS, tFmtI, tM0, tJs, tM1, rNewStrs, tMatch, setAll, lit_to, lit_page, lit_section, lit_gone, lit_exact, lit_open, tSeq, tAsg, tIfS, tRet, tRetN, tDrop, tNext, tNever, tOr, tAnd, tNot, tB, tTest, tCB, tCons, tVar, tC, tNil, tOp, tUn, tIf, tAndV, tOrV, tNotV, tChain, tTup, tLst, tCallR, tMethN, tMakeN, tPropN, tYes, gName, cx_K, cx_P, cx_w, rI0, rI, rEq, rNe, List.getElem?_cons_zero, List.getElem?_cons_succ, List.set_cons_zero, List.set_cons_succ, Option.some.injEq, exists_eq_left', exists_eq_left, V.bl.injEq, V.int.injEq, V.str.injEq, V.ref.injEq, List.cons.injEq, and_true, true_and, exists_and_left, and_assoc, List.append_nil]
        rw [lx_slash, decide_eq_true (show T (tAd []) = T [47] from rfl)]
        exact ⟨rfl, r H1 (Same.refl _)⟩
      · refine ⟨Nat.zero_le _, fun p hp => ?_⟩
        have s3 : Same H (upd H2 p (.tup [])) := (s1.trans s2).nw hp
        have q : SqT K (upd H2 p (.tup [])) p (([] : Ad).map vW) := SqT.of upd_same
        refine sif_nx (fun R r => ?_) fun H3 s4 => ?_
        · simp only [tCKw, tVals, gStar, gCons, gNil, StX.tStar, tFmtS, tFmtI, tM0, tJs, tM1, rNewStrs, tMatch, setAll, lit_to, lit_page, lit_section, lit_gone, lit_exact, lit_open, tSeq, tAsg, tIfS, tRet, tRetN, tDrop, tNext, tNever, tOr, tAnd, tNot, tB, tTest, tCB, tCons, tVar, tC, tNil, tOp, tUn, tIf, tAndV, tOrV, tNotV, tChain, tTup, tLst, tCallR, tMethN, tMakeN, tPropN, tYes, gName, cx_K, cx_P, cx_w, rI0, rI, rEq, rNe, List.getElem?_cons_zero, List.getElem?_cons_succ, List.set_cons_zero, List.set_cons_succ, Option.some.injEq, exists_eq_left', exists_eq_left, V.bl.injEq, V.int.injEq, V.str.injEq, V.ref.injEq, List.cons.injEq, and_true, true_and, exists_and_left, and_assoc, List.append_nil]
          exact ⟨_, rfl, [], ⟨p, rfl, q⟩, by decide, ok.ok, fun H4 s5 => ⟨true, rfl, r H4 s5⟩⟩
        · simp only [tCKw, tVals, gStar, gCons, gNil, StX.tStar, tFmtS, tFmtI, tM0, tJs, tM1, rNewStrs, tMatch, setAll, lit_to, lit_page, lit_section, lit_gone, lit_exact, lit_open, tSeq, tAsg, tIfS, tRet, tRetN, tDrop, tNext, tNever, tOr, tAnd, tNot, tB, tTest, tCB, tCons, tVar, tC, tNil, tOp, tUn, tIf, tAndV, tOrV, tNotV, tChain, tTup, tLst, tCallR, tMethN, tMakeN, tPropN, tYes, gName, cx_K, cx_P, cx_w, rI0, rI, rEq, rNe, List.getElem?_cons_zero, List.getElem?_cons_succ, List.set_cons_zero, List.set_cons_succ, Option.some.injEq, exists_eq_left', exists_eq_left, V.bl.injEq, V.int.injEq, V.str.injEq, V.ref.injEq, List.cons.injEq, and_true, true_and, exists_and_left, and_assoc, List.append_nil]
          exact k p H3 (s3.trans s4) (s4.sqt q)
    · refine ife_yes (fun R r => ?_) fun H2 s2 => ?_
      · simp only [tCKw, tVals, gStar, gCons, gNil, StX.tStar, tFmtS, tFmtI, tM0, tJs, tM1, rNewStrs, tMatch, setAll, lit_to, lit_page, lit_section, lit_gone, lit_exact, lit_open, tSeq, tAsg, tIfS, tRet, tRetN, tDrop, tNext, tNever, tOr, tAnd, tNot, tB, tTest, tCB, tCons, tVar, tC, tNil, tOp, tUn, tIf, tAndV, tOrV, tNotV, tChain, tTup, tLst, tCallR, tMethN, tMakeN, tPropN, tYes, gName, cx_K, cx_P, cx_w, rI0, rI, rEq, rNe, List.getElem?_cons_zero, List.getElem?_cons_succ, List.set_cons_zero, List.set_cons_succ, Option.some.injEq, exists_eq_left', exists_eq_left, V.bl.injEq, V.int.injEq, V.str.injEq, V.ref.injEq, List.cons.injEq, and_true, true_and, exists_and_left, and_assoc, List.append_nil]
        rw [lx_slash, decide_eq_false (fun e => tAd_ne ok h0 (T_inj e))]
        exact ⟨rfl, r H1 (Same.refl _)⟩
      · simp only [tCKw, tVals, gStar, gCons, gNil, StX.tStar, tFmtS, tFmtI, tM0, tJs, tM1, rNewStrs, tMatch, setAll, lit_to, lit_page, lit_section, lit_gone, lit_exact, lit_open, tSeq, tAsg, tIfS, tRet, tRetN, tDrop, tNext, tNever, tOr, tAnd, tNot, tB, tTest, tCB, tCons, tVar, tC, tNil, tOp, tUn, tIf, tAndV, tOrV, tNotV, tChain, tTup, tLst, tCallR, tMethN, tMakeN, tPropN, tYes, gName, cx_K, cx_P, cx_w, rI0, rI, rEq, rNe, List.getElem?_cons_zero, List.getElem?_cons_succ, List.set_cons_zero, List.set_cons_succ, Option.some.injEq, exists_eq_left', exists_eq_left, V.bl.injEq, V.int.injEq, V.str.injEq, V.ref.injEq, List.cons.injEq, and_true, true_and, exists_and_left, and_assoc, List.append_nil]
        refine ⟨_, rfl, _, rfl, _, rfl, hz, ⟨_, rfl⟩, ?_⟩
        have es : Txt.slice (T (tAd a)) (some 1) none = T (TL.joinL [47] a) := SX.from_app [47] _ rfl
        have hj : (TL.joinL [47] a).length ≤ 53 := by
          have : (tAd a).length = (TL.joinL [47] a).length + 1 := rfl
          omega
        have e2 : Txt.split (T (TL.joinL [47] a)) (T [47]) = a.map T := by
          rw [SX.split_S (by decide) (by decide), tAd_spl ok h0]
        rw [es]
        refine ⟨_, rfl, by decide +kernel, ?_, fun l hl => ?_⟩
        · rw [T_len]
          exact Nat.le_trans (show _ ≤ 100 by omega) (by decide)
        · rw [lx_slash, e2, ← vW_map]
          refine ⟨a.map vW, .inl ⟨SqL.of upd_same, fun p hp => ?_⟩⟩
          have s3 : Same H (upd (upd H2 l (.lst (a.map vW))) p (.tup (a.map vW))) := ((s1.trans s2).nw hl).nw hp
          have q : SqT K (upd (upd H2 l (.lst (a.map vW))) p (.tup (a.map vW))) p (a.map vW) := SqT.of upd_same
          have h2 := ok.hi
          exact ⟨_, rfl, a, ⟨p, rfl, q⟩, by omega, ok.ok, fun H3 s4 => ⟨true, rfl, iteF (k p H3 (s3.trans s4) (s4.sqt q))⟩⟩
abbrev N_read_place : List Str := ["text"]
theorem sc_read_place : FnScope N_read_place ["text"] (defScope s_read_place) := ⟨rfl, rfl, rfl, by decide +kernel, rfl, by decide +kernel, by decide +kernel⟩
theorem st_read_place (x0 : V) : L2.start N_read_place [x0] = [some x0] := rfl
def p_read_place : V → Hp → VK → Prop := fun v H Q => ∃ ex a, v = .str (T (tPl ex a)) ∧ OkA a ∧ ∀ p q H', Same H H' → SqT K H' p [vW (sortOf ex), .ref q] → SqT K H' q (a.map vW) → Q (.ref p) H'
theorem ok_read_place (L : Lw K mg) : FN P w K mg base 4 a_read_place (sp1 (p_read_place (K := K))) := by
  obtain ⟨fd, F⟩ := L.read_place
  refine fn_any F sc_read_place (len1 rfl) (fun _ _ _ _ _ _ us hl => match us, hl with | [_], _ => rfl) fun cdv A outer s H vs Q E hr h => ?_
  obtain ⟨_, rfl, ex, a, rfl, ok, k⟩ := h
  have nd := sc_read_place.nd
  refine ⟨_, (pss_cons (ps_if (pt_not (pt_val (pe_m1 PySem.F.slot_str_endswith PySem.F.type_str_endswith mt_endswith (pv 0) pe_str))) (pss_one (ps_ret (pe_tup (pa_cons pe_str (pa_cons (pe_g (ok_read_address L) (hr.mono (by decide)) rfl L.g_read_address L.read_address.kp (pa_cons (pv 0) pa_nil)) pa_nil))))) pss_nil) (pss_one (ps_ret (pe_tup (pa_cons pe_str (pa_cons (pe_ifExp (pt_cmpR op_ne (pv 0) pe_str (nomark _)) (pe_g (ok_read_address L) (hr.mono (by decide)) rfl L.g_read_address L.read_address.kp (pa_cons (pe_slice C8.sl_txt (pv 0) po_none (po_some (pe_un un_neg pe_int))) pa_nil)) (pe_tup pa_nil)) pa_nil)))))), ?_⟩
  simp only [tCKw, tVals, gStar, gCons, gNil, StX.tStar, tFmtS, tFmtI, tM0, tJs, tM1, rNewStrs, tMatch, setAll, lit_to, lit_page, lit_section, lit_gone, lit_exact, lit_open, tAsg, tRet, tRetN, tDrop, tNext, tNever, tNot, tB, tTest, tCB, tCons, tVar, tC, tNil, tOp, tUn, tAndV, tOrV, tNotV, tChain, tTup, tLst, tCallR, tMethN, tMakeN, tPropN, tYes, gName, cx_K, cx_P, cx_w, rI0, rI, rEq, rNe, List.getElem?_cons_zero, List.getElem?_cons_succ, List.set_cons_zero, List.set_cons_succ, Option.some.injEq, exists_eq_left', exists_eq_left, V.bl.injEq, V.int.injEq, V.str.injEq, V.ref.injEq, List.cons.injEq, and_true, true_and, exists_and_left, and_assoc, List.append_nil, st_read_place]
  have h1 := tAd_len ok
  have h2 := tPl_len (ex := ex) ok
  have hz : (T (tPl ex a)).length ≤ sizeLine := sz_T (by omega)
  cases ex with
  | true =>
    have e : tPl true a = tAd a := if_pos rfl
    rw [e]
    refine sif_yes (fun R r => ?_) fun H1 s1 => ?_
    · simp only [tCKw, tVals, gStar, gCons, gNil, StX.tStar, tFmtS, tFmtI, tM0, tJs, tM1, rNewStrs, tMatch, setAll, lit_to, lit_page, lit_section, lit_gone, lit_exact, lit_open, tSeq, tAsg, tIfS, tRet, tRetN, tDrop, tNext, tNever, tOr, tAnd, tNot, tB, tTest, tCB, tCons, tVar, tC, tNil, tOp, tUn, tIf, tAndV, tOrV, tNotV, tChain, tTup, tLst, tCallR, tMethN, tMakeN, tPropN, tYes, gName, cx_K, cx_P, cx_w, rI0, rI, rEq, rNe, List.getElem?_cons_zero, List.getElem?_cons_succ, List.set_cons_zero, List.set_cons_succ, Option.some.injEq, exists_eq_left', exists_eq_left, V.bl.injEq, V.int.injEq, V.str.injEq, V.ref.injEq, List.cons.injEq, and_true, true_and, exists_and_left, and_assoc, List.append_nil]
      rw [lx_star, ends_free (tAd_free ok (by decide) (by decide))]
      exact ⟨⟨_, rfl⟩, r H (Same.refl _)⟩
    · simp only [tCKw, tVals, gStar, gCons, gNil, StX.tStar, tFmtS, tFmtI, tM0, tJs, tM1, rNewStrs, tMatch, setAll, lit_to, lit_page, lit_section, lit_gone, lit_exact, lit_open, tSeq, tAsg, tIfS, tRet, tRetN, tDrop, tNext, tNever, tOr, tAnd, tNot, tB, tTest, tCB, tCons, tVar, tC, tNil, tOp, tUn, tIf, tAndV, tOrV, tNotV, tChain, tTup, tLst, tCallR, tMethN, tMakeN, tPropN, tYes, gName, cx_K, cx_P, cx_w, rI0, rI, rEq, rNe, List.getElem?_cons_zero, List.getElem?_cons_succ, List.set_cons_zero, List.set_cons_succ, Option.some.injEq, exists_eq_left', exists_eq_left, V.bl.injEq, V.int.injEq, V.str.injEq, V.ref.injEq, List.cons.injEq, and_true, true_and, exists_and_left, and_assoc, List.append_nil]
      refine ⟨_, rfl, a, rfl, ok, fun q H2 s2 hq => ⟨szl rfl, fun p hp => ?_⟩⟩
      have s3 : Same H2 (upd H2 p (.tup [vW sExact, .ref q])) := (Same.refl H2).nw hp
      exact k p q _ ((s1.trans s2).trans s3) (SqT.of upd_same) (s3.sqt hq)
  | false =>
    by_cases h0 : a = []
    · subst h0
      rw [show tPl false [] = [] ++ [47, 42] from rfl]
      refine sif_nx (fun R r => ?_) fun H1 s1 => ?_
      · simp only [tCKw, tVals, gStar, gCons, gNil, StX.tStar, tFmtS, tFmtI, tM0, tJs, tM1, rNewStrs, tMatch, setAll, lit_to, lit_page, lit_section, lit_gone, lit_exact, lit_open, tSeq, tAsg, tIfS, tRet, tRetN, tDrop, tNext, tNever, tOr, tAnd, tNot, tB, tTest, tCB, tCons, tVar, tC, tNil, tOp, tUn, tIf, tAndV, tOrV, tNotV, tChain, tTup, tLst, tCallR, tMethN, tMakeN, tPropN, tYes, gName, cx_K, cx_P, cx_w, rI0, rI, rEq, rNe, List.getElem?_cons_zero, List.getElem?_cons_succ, List.set_cons_zero, List.set_cons_succ, Option.some.injEq, exists_eq_left', exists_eq_left, V.bl.injEq, V.int.injEq, V.str.injEq, V.ref.injEq, List.cons.injEq, and_true, true_and, exists_and_left, and_assoc, List.append_nil]
        rw [lx_star, ends_T]
        exact ⟨⟨_, rfl⟩, r H (Same.refl _)⟩
      · simp only [tCKw, tVals, gStar, gCons, gNil, StX.tStar, tFmtS, tFmtI, tM0, tJs, tM1, rNewStrs, tMatch, setAll, lit_to, lit_page, lit_section, lit_gone, lit_exact, lit_open, tSeq, tAsg, tIfS, tRet, tRetN, tDrop, tNext, tNever, tOr, tAnd, tNot, tB, tTest, tCB, tCons, tVar, tC, tNil, tOp, tUn, tIf, tAndV, tOrV, tNotV, tChain, tTup, tLst, tCallR, tMethN, tMakeN, tPropN, tYes, gName, cx_K, cx_P, cx_w, rI0, rI, rEq, rNe, List.getElem?_cons_zero, List.getElem?_cons_succ, List.set_cons_zero, List.set_cons_succ, Option.some.injEq, exists_eq_left', exists_eq_left, V.bl.injEq, V.int.injEq, V.str.injEq, V.ref.injEq, List.cons.injEq, and_true, true_and, exists_and_left, and_assoc, List.append_nil]
        rw [lx_star, decide_eq_true (show T ([] ++ [47, 42]) = T [47, 42] from rfl)]
        refine ⟨rfl, iteF ⟨szl rfl, fun q hq => ⟨szl rfl, fun p hp => ?_⟩⟩⟩
        have s3 : Same H1 (upd H1 q (.tup [])) := (Same.refl H1).nw hq
        have s4 := (Same.refl (upd H1 q (.tup []))).nw (o := .tup [vW sOpen, .ref q]) hp
        exact k p q _ ((s1.trans s3).trans s4) (SqT.of upd_same) (s4.sqt (SqT.of upd_same))
    · have e : tPl false a = tAd a ++ [47, 42] := (if_neg Bool.false_ne_true).trans (if_neg h0)
      rw [e] at hz ⊢
      refine sif_nx (fun R r => ?_) fun H1 s1 => ?_
      · simp only [tCKw, tVals, gStar, gCons, gNil, StX.tStar, tFmtS, tFmtI, tM0, tJs, tM1, rNewStrs, tMatch, setAll, lit_to, lit_page, lit_section, lit_gone, lit_exact, lit_open, tSeq, tAsg, tIfS, tRet, tRetN, tDrop, tNext, tNever, tOr, tAnd, tNot, tB, tTest, tCB, tCons, tVar, tC, tNil, tOp, tUn, tIf, tAndV, tOrV, tNotV, tChain, tTup, tLst, tCallR, tMethN, tMakeN, tPropN, tYes, gName, cx_K, cx_P, cx_w, rI0, rI, rEq, rNe, List.getElem?_cons_zero, List.getElem?_cons_succ, List.set_cons_zero, List.set_cons_succ, Option.some.injEq, exists_eq_left', exists_eq_left, V.bl.injEq, V.int.injEq, V.str.injEq, V.ref.injEq, List.cons.injEq, and_true, true_and, exists_and_left, and_assoc, List.append_nil]
        rw [lx_star, ends_T]
        exact ⟨⟨_, rfl⟩, r H (Same.refl _)⟩
      · simp only [tCKw, tVals, gStar, gCons, gNil, StX.tStar, tFmtS, tFmtI, tM0, tJs, tM1, rNewStrs, tMatch, setAll, lit_to, lit_page, lit_section, lit_gone, lit_exact, lit_open, tSeq, tAsg, tIfS, tRet, tRetN, tDrop, tNext, tNever, tOr, tAnd, tNot, tB, tTest, tCB, tCons, tVar, tC, tNil, tOp, tUn, tIf, tAndV, tOrV, tNotV, tChain, tTup, tLst, tCallR, tMethN, tMakeN, tPropN, tYes, gName, cx_K, cx_P, cx_w, rI0, rI, rEq, rNe, List.getElem?_cons_zero, List.getElem?_cons_succ, List.set_cons_zero, List.set_cons_succ, Option.some.injEq, exists_eq_left', exists_eq_left, V.bl.injEq, V.int.injEq, V.str.injEq, V.ref.injEq, List.cons.injEq, and_true, true_and, exists_and_left, and_assoc, List.append_nil]
        rw [lx_star, decide_eq_false (fun e => by
          have h := congrArg List.length (T_inj e)
          rw [List.length_append] at h
          exact absurd h (by simp [tAd]))]
        refine ⟨rfl, iteT ?_⟩
        refine ⟨_, rfl, _, rfl, _, rfl, _, rfl, hz, ?_⟩
        have es : Txt.slice (T (tAd a ++ [47, 42])) none (some (-2)) = T (tAd a) := slice_but2 _ _ _
        rw [es]
        refine ⟨_, rfl, a, rfl, ok, fun q H2 s2 hq => ⟨szl rfl, fun p hp => ?_⟩⟩
        have s3 : Same H2 (upd H2 p (.tup [vW sOpen, .ref q])) := (Same.refl H2).nw hp
        exact k p q _ ((s1.trans s2).trans s3) (SqT.of upd_same) (s3.sqt hq)
abbrev N_read_answer : List Str := ["words", "target", "days"]
theorem sc_read_answer : FnScope N_read_answer ["words"] (defScope s_read_answer) := ⟨rfl, rfl, rfl, by decide +kernel, rfl, by decide +kernel, by decide +kernel⟩
theorem st_read_answer (x0 : V) : L2.start N_read_answer [x0] = [some x0, none, none] := rfl
def p_read_answer : V → Hp → VK → Prop := fun v H Q => ∃ ex a p, v = .ref p ∧ SqL K H p ((wAn a).map vW) ∧ OkAn ex a ∧ ∀ v' H', Same H H' → AnAt K H' v' a → Q v' H'
theorem ok_read_answer (L : Lw K mg) : FN P w K mg base 4 a_read_answer (sp1 (p_read_answer (K := K))) := by
  obtain ⟨fd, F⟩ := L.read_answer
  refine fn_any F sc_read_answer (len1 rfl) (fun _ _ _ _ _ _ us hl => match us, hl with | [_], _ => rfl) fun cdv A outer s H vs Q E hr h => ?_
  obtain ⟨_, rfl, ex, a, p, rfl, q, ok, k⟩ := h
  have nd := sc_read_answer.nd
  refine ⟨_, (pss_cons (ps_match (pv 0) (pcs_cons (is := [1]) nd (pm_seq rfl (pms_cons (pm_val op_eq pe_str) (pms_cons pm_cap pms_nil))) ⟨rfl, .inl rfl, .inl rfl, trivial⟩ (pss_one (ps_ret (pe_tup (pa_cons pe_str (pa_cons (pe_g (ok_read_address L) (hr.mono (by decide)) rfl L.g_read_address L.read_address.kp (pa_cons (pv 1) pa_nil)) (pa_cons pe_int pa_nil)))))) (pcs_cons (is := [1, 2]) nd (pm_seq rfl (pms_cons (pm_val op_eq pe_str) (pms_cons pm_cap (pms_cons (pm_val op_eq pe_str) (pms_cons pm_cap pms_nil))))) ⟨rfl, .inl rfl, .inl rfl, rfl, .inl rfl, .inl rfl, trivial⟩ (pss_one (ps_ret (pe_tup (pa_cons pe_str (pa_cons (pe_g (ok_read_address L) (hr.mono (by decide)) rfl L.g_read_address L.read_address.kp (pa_cons (pv 1) pa_nil)) (pa_cons (pe_g (ok_figure L) (hr.mono (by decide)) rfl L.g_figure L.figure.kp (pa_cons (pv 2) pa_nil)) pa_nil)))))) pcs_nil))) (pss_one (ps_ret (pe_callTy call_tuple_of (by rfl) L.z_tuple (by decide +kernel) (pa_cons (pv 0) pa_nil))))), ?_⟩
  simp only [tCKw, tVals, gStar, gCons, gNil, StX.tStar, tFmtS, tFmtI, tM0, tJs, tM1, rNewStrs, tMatch, setAll, lit_to, lit_page, lit_section, lit_gone, lit_exact, lit_open, tSeq, tAsg, tIfS, tRet, tRetN, tDrop, tNext, tNever, tOr, tAnd, tNot, tB, tTest, tCB, tCons, tVar, tC, tNil, tOp, tUn, tIf, tAndV, tOrV, tNotV, tChain, tTup, tLst, tCallR, tMethN, tMakeN, tPropN, tYes, gName, cx_K, cx_P, cx_w, rI0, rI, rEq, rNe, List.getElem?_cons_zero, List.getElem?_cons_succ, List.set_cons_zero, List.set_cons_succ, Option.some.injEq, exists_eq_left', exists_eq_left, V.bl.injEq, V.int.injEq, V.str.injEq, V.ref.injEq, List.cons.injEq, and_true, true_and, exists_and_left, and_assoc, List.append_nil, st_read_answer]
  cases a with
  | gone =>
    refine case_no (seq_len (.inr q) (nel rfl)) ?_
    refine case_no (seq_len (.inr q) (nel rfl)) ?_
    simp only [tCKw, tVals, gStar, gCons, gNil, StX.tStar, tFmtS, tFmtI, tM0, tJs, tM1, rNewStrs, tMatch, setAll, lit_to, lit_page, lit_section, lit_gone, lit_exact, lit_open, tSeq, tAsg, tIfS, tRet, tRetN, tDrop, tNext, tNever, tOr, tAnd, tNot, tB, tTest, tCB, tCons, tVar, tC, tNil, tOp, tUn, tIf, tAndV, tOrV, tNotV, tChain, tTup, tLst, tCallR, tMethN, tMakeN, tPropN, tYes, gName, cx_K, cx_P, cx_w, rI0, rI, rEq, rNe, List.getElem?_cons_zero, List.getElem?_cons_succ, List.set_cons_zero, List.set_cons_succ, Option.some.injEq, exists_eq_left', exists_eq_left, V.bl.injEq, V.int.injEq, V.str.injEq, V.ref.injEq, List.cons.injEq, and_true, true_and, exists_and_left, and_assoc, List.append_nil, tCNil]
    refine ⟨_, .inl ⟨q, fun l hl => ?_⟩⟩
    exact k _ _ ((Same.refl H).nw hl) ⟨l, rfl, SqT.of upd_same⟩
  | page n =>
    refine case_no (seq_no (.inr q) rfl (pcons_no1 (val_no scal_W (vW_ne (by decide))))) ?_
    refine case_no (seq_len (.inr q) (nel rfl)) ?_
    simp only [tCKw, tVals, gStar, gCons, gNil, StX.tStar, tFmtS, tFmtI, tM0, tJs, tM1, rNewStrs, tMatch, setAll, lit_to, lit_page, lit_section, lit_gone, lit_exact, lit_open, tSeq, tAsg, tIfS, tRet, tRetN, tDrop, tNext, tNever, tOr, tAnd, tNot, tB, tTest, tCB, tCons, tVar, tC, tNil, tOp, tUn, tIf, tAndV, tOrV, tNotV, tChain, tTup, tLst, tCallR, tMethN, tMakeN, tPropN, tYes, gName, cx_K, cx_P, cx_w, rI0, rI, rEq, rNe, List.getElem?_cons_zero, List.getElem?_cons_succ, List.set_cons_zero, List.set_cons_succ, Option.some.injEq, exists_eq_left', exists_eq_left, V.bl.injEq, V.int.injEq, V.str.injEq, V.ref.injEq, List.cons.injEq, and_true, true_and, exists_and_left, and_assoc, List.append_nil, tCNil]
    refine ⟨_, .inl ⟨q, fun l hl => ?_⟩⟩
    exact k _ _ ((Same.refl H).nw hl) ⟨l, rfl, SqT.of upd_same⟩
  | «section» n =>
    refine case_no (seq_no (.inr q) rfl (pcons_no1 (val_no scal_W (vW_ne (by decide))))) ?_
    refine case_no (seq_len (.inr q) (nel rfl)) ?_
    simp only [tCKw, tVals, gStar, gCons, gNil, StX.tStar, tFmtS, tFmtI, tM0, tJs, tM1, rNewStrs, tMatch, setAll, lit_to, lit_page, lit_section, lit_gone, lit_exact, lit_open, tSeq, tAsg, tIfS, tRet, tRetN, tDrop, tNext, tNever, tOr, tAnd, tNot, tB, tTest, tCB, tCons, tVar, tC, tNil, tOp, tUn, tIf, tAndV, tOrV, tNotV, tChain, tTup, tLst, tCallR, tMethN, tMakeN, tPropN, tYes, gName, cx_K, cx_P, cx_w, rI0, rI, rEq, rNe, List.getElem?_cons_zero, List.getElem?_cons_succ, List.set_cons_zero, List.set_cons_succ, Option.some.injEq, exists_eq_left', exists_eq_left, V.bl.injEq, V.int.injEq, V.str.injEq, V.ref.injEq, List.cons.injEq, and_true, true_and, exists_and_left, and_assoc, List.append_nil, tCNil]
    refine ⟨_, .inl ⟨q, fun l hl => ?_⟩⟩
    exact k _ _ ((Same.refl H).nw hl) ⟨l, rfl, SqT.of upd_same⟩
  | to t d =>
    by_cases h0 : d = 0
    · subst h0
      refine case_yes (seq_yes (.inr q) rfl (pcons_yes (val_yes scal_W rfl) (pcons_yes cap_yes pnil))) ?_
      simp only [tCKw, tVals, gStar, gCons, gNil, StX.tStar, tFmtS, tFmtI, tM0, tJs, tM1, rNewStrs, tMatch, setAll, lit_to, lit_page, lit_section, lit_gone, lit_exact, lit_open, tSeq, tAsg, tIfS, tRet, tRetN, tDrop, tNext, tNever, tOr, tAnd, tNot, tB, tTest, tCB, tCons, tVar, tC, tNil, tOp, tUn, tIf, tAndV, tOrV, tNotV, tChain, tTup, tLst, tCallR, tMethN, tMakeN, tPropN, tYes, gName, cx_K, cx_P, cx_w, rI0, rI, rEq, rNe, List.getElem?_cons_zero, List.getElem?_cons_succ, List.set_cons_zero, List.set_cons_succ, Option.some.injEq, exists_eq_left', exists_eq_left, V.bl.injEq, V.int.injEq, V.str.injEq, V.ref.injEq, List.cons.injEq, and_true, true_and, exists_and_left, and_assoc, List.append_nil, List.nil_append, List.cons_append]
      refine ⟨_, rfl, t, rfl, ok.1, fun u H1 s1 hu => ⟨szl rfl, fun l hl => ?_⟩⟩
      exact k _ _ (s1.nw hl) ⟨l, .ref u, rfl, SqT.of upd_same, u, rfl, ((Same.refl H1).nw hl).sqt hu⟩
    · have e : wAn (.to t d) = [sTo, tAd t, sFor, dg d] := if_neg h0
      rw [e] at q
      refine case_no (seq_len (.inr q) (nel rfl)) ?_
      refine case_yes (seq_yes (.inr q) rfl (pcons_yes (val_yes scal_W rfl) (pcons_yes cap_yes (pcons_yes (val_yes scal_W lit_for.symm) (pcons_yes cap_yes pnil))))) ?_
      simp only [tCKw, tVals, gStar, gCons, gNil, StX.tStar, tFmtS, tFmtI, tM0, tJs, tM1, rNewStrs, tMatch, setAll, lit_to, lit_page, lit_section, lit_gone, lit_exact, lit_open, tSeq, tAsg, tIfS, tRet, tRetN, tDrop, tNext, tNever, tOr, tAnd, tNot, tB, tTest, tCB, tCons, tVar, tC, tNil, tOp, tUn, tIf, tAndV, tOrV, tNotV, tChain, tTup, tLst, tCallR, tMethN, tMakeN, tPropN, tYes, gName, cx_K, cx_P, cx_w, rI0, rI, rEq, rNe, List.getElem?_cons_zero, List.getElem?_cons_succ, List.set_cons_zero, List.set_cons_succ, Option.some.injEq, exists_eq_left', exists_eq_left, V.bl.injEq, V.int.injEq, V.str.injEq, V.ref.injEq, List.cons.injEq, and_true, true_and, exists_and_left, and_assoc, List.append_nil, List.nil_append, List.cons_append]
      have hd := ok.2
      refine ⟨_, rfl, t, rfl, ok.1, fun u H1 s1 hu => ⟨_, rfl, d, rfl, by omega, fun H2 s2 => ⟨szl rfl, fun l hl => ?_⟩⟩⟩
      exact k _ _ ((s1.trans s2).nw hl) ⟨l, .ref u, rfl, SqT.of upd_same, u, rfl, ((Same.refl H2).nw hl).sqt (s2.sqt hu)⟩
abbrev N_read_rule : List Str := ["text", "place", "words", "found"]
theorem sc_read_rule : FnScope N_read_rule ["text"] (defScope s_read_rule) := ⟨rfl, rfl, rfl, by decide +kernel, rfl, by decide +kernel, by decide +kernel⟩
theorem st_read_rule (x0 : V) : L2.start N_read_rule [x0] = [some x0, none, none, none] := rfl
def p_read_rule : V → Hp → VK → Prop := fun v H Q => ∃ r, v = .str (T (tR r)) ∧ OkR r ∧ ∀ v' H', Same H H' → RuAt K H' v' r → Q v' H'
theorem ok_read_rule (L : Lw K mg) : FN P w K mg base 7 a_read_rule (sp1 (p_read_rule (K := K))) := by
  obtain ⟨fd, F⟩ := L.read_rule
  refine fn_any F sc_read_rule (len1 rfl) (fun _ _ _ _ _ _ us hl => match us, hl with | [_], _ => rfl) fun cdv A outer s H vs Q E hr h => ?_
  obtain ⟨_, rfl, r, rfl, ok, k⟩ := h
  have nd := sc_read_rule.nd
  refine ⟨_, (pss_cons (ps_if (pt_not (pt_val (pe_callB call_isi (by rfl) L.z_isinstance (by decide +kernel) (pa_cons (pv 0) (pa_cons (pe_bltn (v := .ty "str") (by rfl) L.z_str (by decide +kernel) rfl) pa_nil))))) (pss_one ps_never) pss_nil) (pss_cons (ps_try_thru0 (pss_cons (ps_asg (pe_split (pv 0) pe_str) (pg_star rfl (pgs_cons (pg_name (i := 1) nd rfl (Or.inl rfl)) (pgs_cons (pg_name (i := 2) nd rfl (Or.inl rfl)) pgs_nil)))) (pss_one (ps_set (i := 3) nd rfl (Or.inl rfl) (pe_tup (StX.pa_star (pe_g (ok_read_place L) (hr.mono (by decide)) rfl L.g_read_place L.read_place.kp (pa_cons (pv 1) pa_nil)) (pa_cons (pe_g (ok_read_answer L) (hr.mono (by decide)) rfl L.g_read_answer L.read_answer.kp (pa_cons (pv 2) pa_nil)) pa_nil))))))) (pss_cons (ps_if (PW.pt (pw_or (pt_not (pt_val (pe_g (ok_is_rule L) (hr.mono (by decide)) rfl L.g_is_rule L.is_rule.kp (pa_cons (pv 3) pa_nil)))) (pw_or1 (pt_cmpR op_ne (pe_g (ok_rule_text L) (hr.mono (by decide)) rfl L.g_rule_text L.rule_text.kp (pa_cons (pv 3) pa_nil)) (pv 0) (nomark _))))) (pss_one ps_never) pss_nil) (pss_one (ps_ret (pv 3)))))), ?_⟩
  simp only [tCKw, tVals, gStar, gCons, gNil, StX.tStar, tFmtS, tFmtI, tM0, tJs, tM1, rNewStrs, tMatch, setAll, lit_to, lit_page, lit_section, lit_gone, lit_exact, lit_open, tAsg, tRet, tRetN, tDrop, tNext, tNever, tNot, tB, tTest, tCB, tCons, tVar, tC, tNil, tOp, tUn, tAndV, tOrV, tNotV, tChain, tTup, tLst, tCallR, tMethN, tMakeN, tPropN, tYes, gName, cx_K, cx_P, cx_w, rI0, rI, rEq, rNe, List.getElem?_cons_zero, List.getElem?_cons_succ, List.set_cons_zero, List.set_cons_succ, Option.some.injEq, exists_eq_left', exists_eq_left, V.bl.injEq, V.int.injEq, V.str.injEq, V.ref.injEq, List.cons.injEq, and_true, true_and, exists_and_left, and_assoc, List.append_nil, st_read_rule]
  have h1 := tR_len ok
  have hz : (T (tR r)).length ≤ sizeLine := sz_T (by omega)
  refine sif_nx (fun R r => ?_) fun H1 s1 => ?_
  · simp only [tCKw, tVals, gStar, gCons, gNil, StX.tStar, tFmtS, tFmtI, tM0, tJs, tM1, rNewStrs, tMatch, setAll, lit_to, lit_page, lit_section, lit_gone, lit_exact, lit_open, tSeq, tAsg, tIfS, tRet, tRetN, tDrop, tNext, tNever, tOr, tAnd, tNot, tB, tTest, tCB, tCons, tVar, tC, tNil, tOp, tUn, tIf, tAndV, tOrV, tNotV, tChain, tTup, tLst, tCallR, tMethN, tMakeN, tPropN, tYes, gName, cx_K, cx_P, cx_w, rI0, rI, rEq, rNe, List.getElem?_cons_zero, List.getElem?_cons_succ, List.set_cons_zero, List.set_cons_succ, Option.some.injEq, exists_eq_left', exists_eq_left, V.bl.injEq, V.int.injEq, V.str.injEq, V.ref.injEq, List.cons.injEq, and_true, true_and, exists_and_left, and_assoc, List.append_nil]
    exact isi_ty (.base (.str _)) kb_ss ⟨true, rfl, r H (Same.refl _)⟩
  simp only [tCKw, tVals, gStar, gCons, gNil, StX.tStar, tFmtS, tFmtI, tM0, tJs, tM1, rNewStrs, tMatch, setAll, lit_to, lit_page, lit_section, lit_gone, lit_exact, lit_open, tSeq, tAsg, tIfS, tRet, tRetN, tDrop, tNext, tNever, tOr, tAnd, tNot, tB, tTest, tCB, tCons, tVar, tC, tNil, tOp, tUn, tIf, tAndV, tOrV, tNotV, tChain, tTup, tLst, tCallR, tMethN, tMakeN, tPropN, tYes, gName, cx_K, cx_P, cx_w, rI0, rI, rEq, rNe, List.getElem?_cons_zero, List.getElem?_cons_succ, List.set_cons_zero, List.set_cons_succ, Option.some.injEq, exists_eq_left', exists_eq_left, V.bl.injEq, V.int.injEq, V.str.injEq, V.ref.injEq, List.cons.injEq, and_true, true_and, exists_and_left, and_assoc, List.append_nil]
  rw [lx_sp, tR_spl ok, ← vW_map]
  refine ⟨⟨_, rfl⟩, by decide +kernel, ?_, fun p hp => ?_⟩
  · rw [T_len]
    exact Nat.le_trans (show _ ≤ 200 by omega) (by decide)
  have s2 := s1.nw (o := .lst ((tPl r.ex r.at_ :: wAn r.an).map vW)) hp
  refine ⟨_, _, SqL.of upd_same, ?_, fun p1 hp1 => ?_⟩
  · rw [List.length_map]
    exact Nat.lt_of_le_of_lt (wAn_len _) (by decide)
  have s3 := s2.nw (o := .lst ((wAn r.an).map vW)) hp1
  refine ⟨_, rfl, r.ex, r.at_, rfl, ok.at_, fun q u H2 s4 hq hu => ⟨_, rfl, _, .inl hq, ?_⟩⟩
  refine ⟨_, rfl, r.ex, r.an, p1, rfl, SqL.of (s4 _ _ upd_same), ok.an, fun v H3 s5 hv => ⟨szl rfl, fun l hl => ?_⟩⟩
  have s6 := (Same.refl H3).nw (o := .tup [vW (sortOf r.ex), .ref u, v]) hl
  have hr : RuAt K (upd H3 l (.tup [vW (sortOf r.ex), .ref u, v])) (.ref l) r := ⟨l, _, _, rfl, SqT.of upd_same, ⟨u, rfl, s6.sqt (s5.sqt hu)⟩, hv.mono s6⟩
  refine ⟨_, rfl, r, hr, ok, fun H4 s7 => ⟨true, rfl, iteF ?_⟩⟩
  refine ⟨_, rfl, r, hr.mono s7, ok, fun H5 s8 => ⟨rfl, ?_⟩⟩
  rw [decide_eq_true rfl]
  exact k _ H5 (((((s3.trans s4).trans s5).trans s6).trans s7).trans s8) ((hr.mono s7).mono s8)
end
end K88
set_option maxHeartbeats 4000000
/-! Tables. -/
namespace K88
open PySem PySem.Spec PyProof.Rows L2
open PySem.W (AllAlike Sortable dataLe alike alikeAll)
/-! ### what is always kept -/
structure KeepT (H H' : Hp) : Prop where
  t : ∀ b xs, H b = some (.tup xs) → H' b = some (.tup xs)
  f : ∀ b o u, H b = some (.frz o u) → H' b = some (.frz o u)
theorem _root_.L2.Same.kt {H H' : Hp} (s : Same H H') : KeepT H H' := ⟨fun b xs e => s b _ e, fun b o u e => s b _ e⟩
theorem KeepT.trans {H H1 H2 : Hp} (a : KeepT H H1) (b : KeepT H1 H2) : KeepT H H2 := ⟨fun c xs e => b.t c xs (a.t c xs e), fun c o u e => b.f c o u (a.f c o u e)⟩
theorem KeepT.upd {H H' : Hp} {a : Addr} {o : HO} (k : KeepT H H') (h : ∀ u, H a = some u → (∀ xs, u ≠ .tup xs) ∧ ∀ ob v, u ≠ .frz ob v) : KeepT H (L2.upd H' a o) :=
  ⟨fun b xs e => by rw [upd_ne (fun z => (h _ (by rw [← z]; exact e)).1 xs rfl)]; exact k.t b xs e, fun b ob u e => by rw [upd_ne (fun z => (h _ (by rw [← z]; exact e)).2 ob u rfl)]; exact k.f b ob u e⟩
theorem KeepT.mut {H H' : Hp} {a : Addr} {o u : HO} (k : KeepT H H') (e : H a = some u) (m : Mut (some u)) : KeepT H (L2.upd H' a o) := k.upd fun v z => by
  rw [e] at z
  cases z
  exact ⟨(fun xs q => by rw [q] at m; exact m), (fun ob v q => by rw [q] at m; exact m)⟩
theorem KeepT.none {H H' : Hp} {a : Addr} {o : HO} (k : KeepT H H') (e : H a = none) : KeepT H (L2.upd H' a o) := k.upd fun v z => by
  rw [e] at z
  cases z
theorem sqt_kt {K : PySem.W.Frag} {H H' : Hp} {a : Addr} {xs : List V} (e : KeepT H H') (h : SqT K H a xs) : SqT K H' a xs := by
  rcases h with (h | ⟨o, h⟩) | h
  · exact .inl (.inl (e.t _ _ h))
  · exact .inl (.inr ⟨o, e.f _ _ _ h⟩)
  · exact .inr h
theorem AdAt.kt {K : PySem.W.Frag} {H H' : Hp} {v : V} {a : Ad} (h : AdAt K H v a) (e : KeepT H H') : AdAt K H' v a := by
  obtain ⟨p, rfl, q⟩ := h
  exact ⟨p, rfl, sqt_kt e q⟩
theorem AnAt.kt {K : PySem.W.Frag} {H H' : Hp} {v : V} {a : An} (h : AnAt K H v a) (e : KeepT H H') : AnAt K H' v a := by
  cases a with
  | gone => obtain ⟨p, rfl, q⟩ := h; exact ⟨p, rfl, sqt_kt e q⟩
  | page n => obtain ⟨p, rfl, q⟩ := h; exact ⟨p, rfl, sqt_kt e q⟩
  | «section» n => obtain ⟨p, rfl, q⟩ := h; exact ⟨p, rfl, sqt_kt e q⟩
  | to t d => obtain ⟨p, u, rfl, q, z⟩ := h; exact ⟨p, u, rfl, sqt_kt e q, z.kt e⟩
theorem RuAt.kt {K : PySem.W.Frag} {H H' : Hp} {v : V} {r : Ru} (h : RuAt K H v r) (e : KeepT H H') : RuAt K H' v r := by
  obtain ⟨p, x, y, rfl, q, a, b⟩ := h
  exact ⟨p, x, y, rfl, sqt_kt e q, a.kt e, b.kt e⟩
theorem KyAt.kt {K : PySem.W.Frag} {H H' : Hp} {b : Addr} {k : Ky} (h : KyAt K H b k) (e : KeepT H H') : KyAt K H' b k := by
  obtain ⟨q, h1, h2⟩ := h
  exact ⟨q, sqt_kt e h1, sqt_kt e h2⟩
theorem KysAt.kt {K : PySem.W.Frag} {H H' : Hp} {es : List Ent} (h : KysAt K H es) (e : KeepT H H') : KysAt K H' es := fun x hx => (h x hx).kt e
theorem paired_imp {α β : Type} {F G : α → β → Prop} {l : List α} {m : List β} (h : Paired F l m) (k : ∀ a b, F a b → G a b) : Paired G l m := Paired.mapP h k
/-- all but one thing is kept -/
def SameB (a : Addr) (H H' : Hp) : Prop := ∀ b o, b ≠ a → H b = some o → H' b = some o
/-! ### rules, tables -/
def keyOf (r : Ru) : Ky := (r.ex, r.at_)
structure OkRs (rs : List Ru) : Prop where
  ok : ∀ r ∈ rs, OkR r
  nd : (rs.map keyOf).Nodup
  hi : rs.length ≤ 40
def RusAt (K : PySem.W.Frag) (H : Hp) (xs : List V) (rs : List Ru) : Prop := Paired (fun v r => RuAt K H v r) xs rs
theorem RusAt.kt {K : PySem.W.Frag} {H H' : Hp} {xs : List V} {rs : List Ru} (h : RusAt K H xs rs) (e : KeepT H H') : RusAt K H' xs rs := paired_imp h fun _ _ q => q.kt e
def DnAt (P : Program) (w : World) (K : PySem.W.Frag) (H : Hp) (d : Addr) (rs : List Ru) : Prop := ∃ es, H d = some (DN P w d es) ∧ KysAt K H es ∧ Paired (fun (e : Ent) r => e.1 = keyOf r ∧ RuAt K H e.2.2 r) es rs
def TblAt (P : Program) (w : World) (K : PySem.W.Frag) (H : Hp) (v : V) (rs : List Ru) : Prop := ∃ a dx d, v = .ref a ∧ H a = some (.ins a_Table dx [("lines", .ref d)]) ∧ DnAt P w K H d rs
theorem DnAt.mono {P : Program} {w : World} {K : PySem.W.Frag} {H H' : Hp} {d : Addr} {rs : List Ru} (h : DnAt P w K H d rs) (e : Same H H') : DnAt P w K H' d rs := by
  obtain ⟨es, q, k, p⟩ := h
  exact ⟨es, e _ _ q, k.kt e.kt, paired_imp p fun _ _ z => ⟨z.1, z.2.kt e.kt⟩⟩
theorem TblAt.mono {P : Program} {w : World} {K : PySem.W.Frag} {H H' : Hp} {v : V} {rs : List Ru} (h : TblAt P w K H v rs) (e : Same H H') : TblAt P w K H' v rs := by
  obtain ⟨a, dx, d, rfl, q, z⟩ := h
  exact ⟨a, dx, d, rfl, e _ _ q, z.mono e⟩
/-! ### keys as data -/
def kA (a : Ad) : PyData := .tuple [.int (a.length : Int), dA a]
def kR (r : Ru) : PyData := .tuple [kA r.at_, dW (sortOf r.ex)]
section
variable {P : Program} {w : World} {K : PySem.W.Frag} {mg : Str → Option Value} {base : Heap}
abbrev N_address_key : List Str := ["address"]
theorem sc_address_key : FnScope N_address_key ["address"] (defScope s_address_key) := ⟨rfl, rfl, rfl, by decide +kernel, rfl, by decide +kernel, by decide +kernel⟩
theorem st_address_key (x0 : V) : L2.start N_address_key [x0] = [some x0] := rfl
def p_address_key : V → Hp → VK → Prop := fun v H Q => ∃ a, AdAt K H v a ∧ ∀ v' H', Same H H' → Dp K H' v' (kA a) → Q v' H'
theorem ok_address_key (L : Lw K mg) : FN P w K mg base 1 a_address_key (sp1 (p_address_key (K := K))) := by
  obtain ⟨fd, F⟩ := L.address_key
  refine fn_any F sc_address_key (len1 rfl) (fun _ _ _ _ _ _ us hl => match us, hl with | [_], _ => rfl) fun cdv A outer s H vs Q E hr h => ?_
  obtain ⟨_, rfl, a, ha, k⟩ := h
  obtain ⟨p, rfl, q⟩ := id ha
  have nd := sc_address_key.nd
  refine ⟨_, (pss_one (ps_ret (pe_tup (pa_cons (pe_callB call_len (by rfl) L.z_len (by decide +kernel) (pa_cons (pv 0) pa_nil)) (pa_cons (pv 0) pa_nil))))), ?_⟩
  simp only [tSl, tPart, tNoPart, tCKw, tVals, gStar, gCons, gNil, StX.tStar, tFmtS, tFmtI, tM0, tJs, tM1, rNewStrs, tMatch, setAll, lit_to, lit_page, lit_section, lit_gone, lit_exact, lit_open, tSeq, tAsg, tIfS, tRet, tRetN, tDrop, tNext, tNever, tOr, tAnd, tNot, tB, tTest, tCB, tCons, tVar, tC, tNil, tOp, tUn, tIf, tAndV, tOrV, tNotV, tChain, tTup, tLst, tCallR, tMethN, tMakeN, tPropN, tYes, gName, cx_K, cx_P, cx_w, rI0, rI, rEq, rNe, List.getElem?_cons_zero, List.getElem?_cons_succ, List.set_cons_zero, List.set_cons_succ, Option.some.injEq, exists_eq_left', exists_eq_left, V.bl.injEq, V.int.injEq, V.str.injEq, V.ref.injEq, List.cons.injEq, and_true, true_and, exists_and_left, and_assoc, List.append_nil, st_address_key]
  refine ⟨_, .inr ⟨_, q, rfl⟩, szl rfl, fun l hl => ?_⟩
  have s1 := (Same.refl H).nw (o := .tup [.int ((a.map vW).length : Int), .ref p]) hl
  refine k _ _ s1 (.tup (SqT.of upd_same) (.cons ?_ (.cons (ha.mono s1).dp .nil)))
  rw [List.length_map]
  exact .int _
abbrev N_rule_key : List Str := ["rule"]
theorem sc_rule_key : FnScope N_rule_key ["rule"] (defScope s_rule_key) := ⟨rfl, rfl, rfl, by decide +kernel, rfl, by decide +kernel, by decide +kernel⟩
theorem st_rule_key (x0 : V) : L2.start N_rule_key [x0] = [some x0] := rfl
def p_rule_key : V → Hp → VK → Prop := fun v H Q => ∃ r, RuAt K H v r ∧ ∀ v' H', Same H H' → Dp K H' v' (kR r) → Q v' H'
theorem ok_rule_key (L : Lw K mg) : FN P w K mg base 2 a_rule_key (sp1 (p_rule_key (K := K))) := by
  obtain ⟨fd, F⟩ := L.rule_key
  refine fn_any F sc_rule_key (len1 rfl) (fun _ _ _ _ _ _ us hl => match us, hl with | [_], _ => rfl) fun cdv A outer s H vs Q E hr h => ?_
  obtain ⟨_, rfl, r, ⟨p, x, y, rfl, q, hx, hy⟩, k⟩ := h
  have nd := sc_rule_key.nd
  refine ⟨_, (pss_one (ps_ret (pe_tup (pa_cons (pe_g (ok_address_key L) (hr.mono (by decide)) rfl L.g_address_key L.address_key.kp (pa_cons (pe_ix (ix_tupK (K := K) rfl) (pv 0) pe_int (fun _ _ => rfl)) pa_nil)) (pa_cons (pe_ix (ix_tupK (K := K) rfl) (pv 0) pe_int (fun _ _ => rfl)) pa_nil))))), ?_⟩
  simp only [tSl, tPart, tNoPart, tCKw, tVals, gStar, gCons, gNil, StX.tStar, tFmtS, tFmtI, tM0, tJs, tM1, rNewStrs, tMatch, setAll, lit_to, lit_page, lit_section, lit_gone, lit_exact, lit_open, tSeq, tAsg, tIfS, tRet, tRetN, tDrop, tNext, tNever, tOr, tAnd, tNot, tB, tTest, tCB, tCons, tVar, tC, tNil, tOp, tUn, tIf, tAndV, tOrV, tNotV, tChain, tTup, tLst, tCallR, tMethN, tMakeN, tPropN, tYes, gName, cx_K, cx_P, cx_w, rI0, rI, rEq, rNe, List.getElem?_cons_zero, List.getElem?_cons_succ, List.set_cons_zero, List.set_cons_succ, Option.some.injEq, exists_eq_left', exists_eq_left, V.bl.injEq, V.int.injEq, V.str.injEq, V.ref.injEq, List.cons.injEq, and_true, true_and, exists_and_left, and_assoc, List.append_nil, st_rule_key]
  refine ixT_at (i := 1) q rfl ⟨_, rfl, r.at_, hx, fun v H1 s1 d1 => ?_⟩
  refine ixT_at (i := 0) (s1.sqt q) rfl ⟨szl rfl, fun l hl => ?_⟩
  have s2 := (Same.refl H1).nw (o := .tup [v, vW (sortOf r.ex)]) hl
  exact k _ _ (s1.trans s2) (.tup (SqT.of upd_same) (.cons (dp_mono s2 d1) (.cons (.str _) .nil)))
abbrev N_Table_init : List Str := ["self", "rules", "rule"]
theorem sc_Table_init : FnScope N_Table_init ["self", "rules"] (defScope s_Table_init) := ⟨rfl, rfl, rfl, by decide +kernel, rfl, by decide +kernel, by decide +kernel⟩
theorem st_Table_init (x0 x1 : V) : L2.start N_Table_init [x0, x1] = [some x0, some x1, none] := rfl
def p_Table_init : V → V → Hp → VK → Prop := fun t v H Q => ∃ a dx p xs rs, t = .ref a ∧ v = .ref p ∧ H a = some (.ins a_Table dx []) ∧ SqX K H p xs ∧ RusAt K H xs rs ∧ OkRs rs ∧
  ∀ d H', SameB a H H' → H' a = some (.ins a_Table dx [("lines", .ref d)]) → DnAt P w K H' d rs → Q .non H'
theorem okf_Table_init (L : Lw K mg) : ∃ fd, FunD K "__init__" "Table.__init__" (defArgs s_Table_init) (defBody s_Table_init) (defScope s_Table_init) [.ref 353] [] a_Table_init fd ∧ FnOk P w K mg base CX0 7 a_Table_init fd ["self", "rules"] (sp2 (p_Table_init (P := P) (w := w) (K := K))) := by
  obtain ⟨fd, F⟩ := L.Table_init
  refine ⟨fd, F, fn_okD F sc_Table_init (len2 rfl) fun cdv A outer s H vs Q E hr h => ?_⟩
  obtain ⟨_, _, rfl, a, dx, p, xs, rs, rfl, rfl, ha, hp, hrs, ok, k⟩ := h
  have nd := sc_Table_init.nd
  refine ⟨_, (pss_cons (ps_for PassesOwn.never rfl (pi_or (pi_list (pv 1)) (pi_tup (pv 1))) (pg_name (i := 2) nd rfl (Or.inl rfl)) (pss_one (ps_if (pt_not (pt_val (pe_g (ok_is_rule L) (hr.mono (by decide)) rfl L.g_is_rule L.is_rule.kp (pa_cons (pv 2) pa_nil)))) (pss_one ps_never) pss_nil))) (pss_cons (ps_fld (pv 0) (pe_dcN hr.units (own := [("rule", 2)]) (g := gName 2) rfl nd (pi_or (pi_list (pv 1)) (pi_tup (pv 1))) (blkOk_by (N := N_Table_init) (sc := defScope s_Table_init) (by decide +kernel)) (fun _ _ _ _ _ => (pg_name (i := 2) nd rfl (Or.inl rfl))) (fun _ _ _ _ _ => pts_nil) (fun _ _ _ _ _ => (pe_tup (pa_cons (pe_ix (ix_tupK (K := K) rfl) (pv 2) pe_int (fun _ _ => rfl)) (pa_cons (pe_ix (ix_tupK (K := K) rfl) (pv 2) pe_int (fun _ _ => rfl)) pa_nil)))) (fun _ _ _ _ _ => (pv 2))) rfl) (pss_one (ps_if (PW.pt (pw_or (pt_cmpR op_gt (pe_callB call_len (by rfl) L.z_len (by decide +kernel) (pa_cons (pv 1) pa_nil)) (pe_gi L.i_MOST_RULES rfl) (nomark _)) (pw_or1 (pt_cmpR op_lt (pe_callB call_len_dN (by rfl) L.z_len (by decide +kernel) (pa_cons (pe_fld (pv 0) rfl) pa_nil)) (pe_callB call_len (by rfl) L.z_len (by decide +kernel) (pa_cons (pv 1) pa_nil)) (nomark _))))) (pss_one ps_never) pss_nil)))), ?_⟩
  simp only [tSl, tPart, tNoPart, tCKw, tVals, gStar, gCons, gNil, StX.tStar, tFmtS, tFmtI, tM0, tJs, tM1, rNewStrs, tMatch, setAll, lit_to, lit_page, lit_section, lit_gone, lit_exact, lit_open, tAsg, tRet, tRetN, tDrop, tNext, tNever, tNot, tB, tTest, tCB, tCons, tVar, tC, tNil, tOp, tUn, tAndV, tOrV, tNotV, tChain, tTup, tLst, tCallR, tMethN, tMakeN, tPropN, tYes, gName, cx_K, cx_P, cx_w, rI0, rI, rEq, rNe, List.getElem?_cons_zero, List.getElem?_cons_succ, List.set_cons_zero, List.set_cons_succ, Option.some.injEq, exists_eq_left', exists_eq_left, V.bl.injEq, V.int.injEq, V.str.injEq, V.ref.injEq, List.cons.injEq, and_true, true_and, exists_and_left, and_assoc, List.append_nil, st_Table_init]
  obtain ⟨J, G, wk, hG, hw⟩ := walk_sq hp
  have hrl : xs.length = rs.length := Paired.length hrs
  refine sfor_w wk (hw _ _ fun Q q => ⟨_, rfl, q⟩) (fun i σ H' => (∃ o, σ = [some (.ref a), some (.ref p), o]) ∧ Same H H') ⟨⟨_, rfl⟩, Same.refl H⟩ (fun i σ H' _ q => hG H' q.2) ?_ ?_
  · rintro i x σ H1 H2 hi ⟨⟨o, rfl⟩, s1⟩ ⟨rfl, hx⟩
    obtain ⟨r, hr, hru⟩ := paired_get hrs hx
    simp only [tSl, tPart, tNoPart, tCKw, tVals, gStar, gCons, gNil, StX.tStar, tFmtS, tFmtI, tM0, tJs, tM1, rNewStrs, tMatch, setAll, lit_to, lit_page, lit_section, lit_gone, lit_exact, lit_open, tAsg, tRet, tRetN, tDrop, tNext, tNever, tNot, tB, tTest, tCB, tCons, tVar, tC, tNil, tOp, tUn, tAndV, tOrV, tNotV, tChain, tTup, tLst, tCallR, tMethN, tMakeN, tPropN, tYes, gName, cx_K, cx_P, cx_w, rI0, rI, rEq, rNe, List.getElem?_cons_zero, List.getElem?_cons_succ, List.set_cons_zero, List.set_cons_succ, Option.some.injEq, exists_eq_left', exists_eq_left, V.bl.injEq, V.int.injEq, V.str.injEq, V.ref.injEq, List.cons.injEq, and_true, true_and, exists_and_left, and_assoc, List.append_nil]
    refine if_no (fun R k => ?_) fun H3 s2 => ⟨⟨_, rfl⟩, s1.trans s2⟩
    simp only [tSl, tPart, tNoPart, tCKw, tVals, gStar, gCons, gNil, StX.tStar, tFmtS, tFmtI, tM0, tJs, tM1, rNewStrs, tMatch, setAll, lit_to, lit_page, lit_section, lit_gone, lit_exact, lit_open, tSeq, tAsg, tIfS, tRet, tRetN, tDrop, tNext, tNever, tOr, tAnd, tNot, tB, tTest, tCB, tCons, tVar, tC, tNil, tOp, tUn, tIf, tAndV, tOrV, tNotV, tChain, tTup, tLst, tCallR, tMethN, tMakeN, tPropN, tYes, gName, cx_K, cx_P, cx_w, rI0, rI, rEq, rNe, List.getElem?_cons_zero, List.getElem?_cons_succ, List.set_cons_zero, List.set_cons_succ, Option.some.injEq, exists_eq_left', exists_eq_left, V.bl.injEq, V.int.injEq, V.str.injEq, V.ref.injEq, List.cons.injEq, and_true, true_and, exists_and_left, and_assoc, List.append_nil]
    exact ⟨_, rfl, r, hru.mono s1, ok.ok r (List.mem_of_getElem? hr), fun H3 s2 => ⟨true, rfl, k H3 s2⟩⟩
  rintro σ H1 ⟨⟨o, rfl⟩, s1⟩
  obtain ⟨J, G, wk, hG, hw⟩ := walk_sq (hp.mono s1)
  have hru1 := hrs.kt s1.kt
  show sFld K _ (tDcN P w K _ _ _ _ _ _) _ _ _ _
  refine tDcN_w wk (hw _ _ fun Q q => ⟨_, rfl, q⟩) (fun D i H' => ∃ es, H' D = some (DN P w D es) ∧ KysAt K H' es ∧ Paired (fun (e : Ent) r => e.1 = keyOf r ∧ RuAt K H' e.2.2 r) es (rs.take i) ∧ Same H1 H') (fun D hD => ⟨[], upd_same, (fun e he => nomatch he), .nil, (Same.refl H1).nw hD⟩) (fun D i H' hD _ q => hG H' (let ⟨_, _, _, _, s⟩ := q; s)) ?_ ?_
  · rintro D i x H2 H3 hD hi ⟨es, eD, ks, pr, s2⟩ ⟨rfl, hx⟩
    obtain ⟨r, hr, p1, x1, y1, rfl, q1, ha1, hb1⟩ := paired_get hru1 hx
    simp only [tSl, tPart, tNoPart, tCKw, tVals, gStar, gCons, gNil, StX.tStar, tFmtS, tFmtI, tM0, tJs, tM1, rNewStrs, tMatch, setAll, lit_to, lit_page, lit_section, lit_gone, lit_exact, lit_open, tSeq, tAsg, tIfS, tRet, tRetN, tDrop, tNext, tNever, tOr, tAnd, tNot, tB, tTest, tCB, tCons, tVar, tC, tNil, tOp, tUn, tIf, tAndV, tOrV, tNotV, tChain, tTup, tLst, tCallR, tMethN, tMakeN, tPropN, tYes, gName, cx_K, cx_P, cx_w, rI0, rI, rEq, rNe, List.getElem?_cons_zero, List.getElem?_cons_succ, List.set_cons_zero, List.set_cons_succ, Option.some.injEq, exists_eq_left', exists_eq_left, V.bl.injEq, V.int.injEq, V.str.injEq, V.ref.injEq, List.cons.injEq, and_true, true_and, exists_and_left, and_assoc, List.append_nil]
    refine ⟨rfl, ?_⟩
    rw [if_pos trivial]
    refine ⟨_, rfl, ixT_at (i := 0) (s2.sqt q1) rfl ⟨_, rfl, ixT_at (i := 1) (s2.sqt q1) rfl ⟨szl rfl, fun b hb => ⟨_, rfl, ?_⟩⟩⟩⟩
    have hbD : b ≠ D := fun z => by rw [z, eD] at hb; cases hb
    obtain ⟨pa, rfl, qa⟩ := ha1
    have hel : es.length = i := by rw [Paired.length pr, List.length_take]; omega
    have s3 := (Same.refl H3).nw (o := .tup [vW (sortOf r.ex), .ref pa]) hb
    have hx1 : D ≠ b := fun z => hbD z.symm
    have nw : ∀ e ∈ es, e.1 ≠ keyOf r := fun e he z => by
      obtain ⟨r', hr', z1, _⟩ := paired_mem pr e he
      have h1 : (rs.map keyOf)[i]? = some (keyOf r) := by rw [List.getElem?_map, hr] <;> rfl
      obtain ⟨j, hj⟩ := List.mem_iff_getElem?.mp hr'
      rw [List.getElem?_take] at hj
      split at hj
      · rename_i hji
        have h2 : (rs.map keyOf)[j]? = some (keyOf r) := by rw [List.getElem?_map, hj, ← z, z1] <;> rfl
        have h3 := (List.getElem?_inj (l := rs.map keyOf) (i := j) (j := i) (by rw [List.length_map]; omega) ok.nd).mp (h2.trans h1.symm)
        omega
      · cases hj
    refine ⟨es, (upd_ne hx1).trans eD, ks.kt s3.kt, Nat.lt_of_lt_of_le (show es.length < 1000 by have := ok.hi; omega) (by decide), keyOf r, ⟨pa, SqT.of upd_same, (s2.trans s3).sqt qa⟩, es ++ [(keyOf r, b, .ref p1)], ?_, ?_, ?_, ?_⟩
    · rw [putN_new nw]
      exact upd_same
    · have kt : KeepT H3 (upd (upd H3 b (.tup [vW (sortOf r.ex), .ref pa])) D (DN P w D (putN es (keyOf r) b (.ref p1)))) := s3.kt.mut eD trivial
      rintro e he
      rcases List.mem_append.mp he with he | he
      · exact (ks e he).kt kt
      · obtain rfl := List.mem_singleton.mp he
        exact ⟨pa, SqT.of ((upd_ne hbD).trans upd_same), sqt_kt kt (s2.sqt qa)⟩
    · have kt : KeepT H3 (upd (upd H3 b (.tup [vW (sortOf r.ex), .ref pa])) D (DN P w D (putN es (keyOf r) b (.ref p1)))) := s3.kt.mut eD trivial
      rw [List.take_add_one, hr]
      exact paired_snoc ⟨rfl, (RuAt.kt ⟨p1, _, _, rfl, s2.sqt q1, ⟨pa, rfl, s2.sqt qa⟩, hb1.mono s2⟩ kt)⟩ (paired_imp pr fun _ _ z => ⟨z.1, z.2.kt kt⟩)
    · exact (s2.trans s3).mt hD
  · rintro D H2 hD ⟨es, eD, ks, pr, s2⟩
    have haD : a ≠ D := fun z => by rw [← z, s1 _ _ ha] at hD; cases hD
    rw [List.take_of_length_le (by omega)] at pr
    simp only [tSl, tPart, tNoPart, tCKw, tVals, gStar, gCons, gNil, StX.tStar, tFmtS, tFmtI, tM0, tJs, tM1, rNewStrs, tMatch, setAll, lit_to, lit_page, lit_section, lit_gone, lit_exact, lit_open, tSeq, tAsg, tIfS, tRet, tRetN, tDrop, tNext, tNever, tOr, tAnd, tNot, tB, tTest, tCB, tCons, tVar, tC, tNil, tOp, tUn, tIf, tAndV, tOrV, tNotV, tChain, tTup, tLst, tCallR, tMethN, tMakeN, tPropN, tYes, gName, cx_K, cx_P, cx_w, rI0, rI, rEq, rNe, List.getElem?_cons_zero, List.getElem?_cons_succ, List.set_cons_zero, List.set_cons_succ, Option.some.injEq, exists_eq_left', exists_eq_left, V.bl.injEq, V.int.injEq, V.str.injEq, V.ref.injEq, List.cons.injEq, and_true, true_and, exists_and_left, and_assoc, List.append_nil]
    refine ⟨a_Table, dx, [], s2 _ _ (s1 _ _ ha), L.c_Table, L.n_Table_lines, by decide, ?_⟩
    have kt : KeepT H2 (upd H2 a (.ins a_Table dx (putF "lines" (.ref D) []))) := (Same.refl H2).kt.mut (s2 _ _ (s1 _ _ ha)) trivial
    have eF : putF (Str.ofString "lines") (V.ref D) [] = [(Str.ofString "lines", V.ref D)] := rfl
    rw [eF] at kt ⊢
    have hD3 : (L2.upd H2 a (.ins a_Table dx [(Str.ofString "lines", V.ref D)])) D = some (DN P w D es) := (upd_ne (Ne.symm haD)).trans eD
    have ka : (L2.upd H2 a (.ins a_Table dx [(Str.ofString "lines", V.ref D)])) a = some (.ins a_Table dx [(Str.ofString "lines", V.ref D)]) := upd_same
    have sb : SameB a H (L2.upd H2 a (.ins a_Table dx [(Str.ofString "lines", V.ref D)])) := fun b o hb e => (upd_ne hb).trans (s2 _ _ (s1 _ _ e))
    have hz := ok.hi
    have hp3 : SqX K (L2.upd H2 a (.ins a_Table dx [(Str.ofString "lines", V.ref D)])) p xs := by
      rcases hp with hp | hp
      · exact .inl (by
          rcases hp with (h | ⟨o, h⟩) | h
          · exact .inl (.inl (sb _ _ (fun z => by rw [z, ha] at h; cases h) h))
          · exact .inl (.inr ⟨o, sb _ _ (fun z => by rw [z, ha] at h; cases h) h⟩)
          · exact .inr h)
      · exact .inr (sqt_kt (s1.kt.trans (s2.kt.trans kt)) hp)
    have dn : DnAt P w K (L2.upd H2 a (.ins a_Table dx [(Str.ofString "lines", V.ref D)])) D rs := ⟨es, hD3, ks.kt kt, paired_imp pr fun _ _ z => ⟨z.1, z.2.kt kt⟩⟩
    generalize L2.upd H2 a (.ins a_Table dx [(Str.ofString "lines", V.ref D)]) = H3 at *
    obtain ⟨es, hD3, ks3, pr3⟩ := id dn
    refine ⟨xs.length, hp3.imp (fun q => ⟨_, q, rfl⟩) (fun q => ⟨_, q, rfl⟩), ?_⟩
    rw [if_neg (by rw [decide_eq_false (by omega)]; decide)]
    refine ⟨_, rfl, a, a_Table, dx, _, .ref D, rfl, ka, L.c_Table, L.n_Table_lines, rfl, D, es, rfl, hD3, ks3, xs.length, hp3.imp (fun q => ⟨_, q, rfl⟩) (fun q => ⟨_, q, rfl⟩), _, rfl, ?_⟩
    have he := Paired.length pr3
    rw [if_neg (by rw [decide_eq_false (by omega)]; decide)]
    exact k D H3 sb ka dn
theorem ok_Table_init (L : Lw K mg) : FN P w K mg base 7 a_Table_init (sp2 (p_Table_init (P := P) (w := w) (K := K))) := by
  obtain ⟨fd, F, G⟩ := okf_Table_init (P := P) (w := w) (base := base) L
  obtain ⟨ds, rd, hb⟩ := F.binds1 (ps := ["self", "rules"]) 2 1 (List.cons_ne_nil _ _) rfl fun T kV doc pm an cdv ct us its h1 h2 => match us, its, h1, h2 with
    | [_, _], [_], _, _ => ⟨_, rfl, rfl⟩
  exact (G.raw hb rd).imp fun vs H Q E h => by
    show sp2 _ (vs ++ []) H Q E
    rw [List.append_nil]
    exact h
theorem ok_Table_init0 (L : Lw K mg) : FN P w K mg base 7 a_Table_init (sp1 (fun t H Q => p_Table_init (P := P) (w := w) (K := K) t (.ref 353) H Q)) := by
  obtain ⟨fd, F, G⟩ := okf_Table_init (P := P) (w := w) (base := base) L
  obtain ⟨ds, rd, hb⟩ := F.binds1 (ps := ["self", "rules"]) 1 0 (List.cons_ne_nil _ _) rfl fun T kV doc pm an cdv ct us its h1 h2 => match us, its, h1, h2 with
    | [_], [_], _, _ => ⟨_, rfl, rfl⟩
  refine (G.raw hb rd).imp fun vs H Q E h => ?_
  obtain ⟨t, rfl, h⟩ := h
  exact ⟨t, .ref 353, rfl, h⟩
/-! ### == -/
theorem isi_own {C a dx : Addr} {fs : List (Str × V)} {H : Hp} {Q : VK} (i : Insts K C) (c : Cls K C) (e : H a = some (.ins C dx fs)) (q : Q (.bl true) H) : rIsi K [.ref a, .ref C] H Q := ⟨_, _, _, _, true, rfl, .own C, i.ty c e, Insts.own, q⟩
def TblEq (P : Program) (w : World) (K : PySem.W.Frag) (a b : Addr) (H : Hp) : Prop := ∃ dx d dx' d', H a = some (.ins a_Table dx [("lines", .ref d)]) ∧ H b = some (.ins a_Table dx' [("lines", .ref d')]) ∧ DDn P w K (.ref d) (.ref d') H
abbrev N_Table_eq : List Str := ["self", "other"]
theorem sc_Table_eq : FnScope N_Table_eq ["self", "other"] (defScope s_Table_eq) := ⟨rfl, rfl, rfl, by decide +kernel, rfl, by decide +kernel, by decide +kernel⟩
theorem st_Table_eq (x0 x1 : V) : L2.start N_Table_eq [x0, x1] = [some x0, some x1] := rfl
theorem okf_Table_eq (L : Lw K mg) : ∃ fd, FnOk P w K mg base CX0 2 a_Table_eq fd ["self", "other"] (spEq (TblEq P w K)) ∧ Binds K fd ["self", "other"] [] := by
  obtain ⟨fd, F⟩ := L.Table_eq
  refine ⟨fd, fn_okD F sc_Table_eq (fun vs H Q E h => by obtain ⟨a, b, rfl, _⟩ := h; rfl) fun cdv A outer s H vs Q E hr h => ?_, F.bindsN fun _ _ _ _ _ _ us hl => match us, hl with | [_, _], _ => rfl⟩
  obtain ⟨a, b, rfl, ⟨dx, d, dx', d', ea, eb, dd⟩, k⟩ := h
  have nd := sc_Table_eq.nd
  refine ⟨_, (pss_one (ps_ret (pe_and (pe_callB call_isi (by rfl) L.z_isinstance (by decide +kernel) (pa_cons (pv 1) (pa_cons (pe_glob (v := .ref a_Table) (by rfl) L.g_Table rfl) pa_nil))) (pe_one (pe_cmpR (op_eqG (rcG_dn (n := 0)) (hr.mono (by decide))) (pe_fld (pv 0) rfl) (pe_fld (pv 1) rfl) (nomark _)))))), ?_⟩
  simp only [tSl, tPart, tNoPart, tCKw, tVals, gStar, gCons, gNil, StX.tStar, tFmtS, tFmtI, tM0, tJs, tM1, rNewStrs, tMatch, setAll, lit_to, lit_page, lit_section, lit_gone, lit_exact, lit_open, tSeq, tAsg, tIfS, tRet, tRetN, tDrop, tNext, tNever, tOr, tAnd, tNot, tB, tTest, tCB, tCons, tVar, tC, tNil, tOp, tUn, tIf, tAndV, tOrV, tNotV, tChain, tTup, tLst, tCallR, tMethN, tMakeN, tPropN, tYes, gName, cx_K, cx_P, cx_w, rI0, rI, rEq, rNe, List.getElem?_cons_zero, List.getElem?_cons_succ, List.set_cons_zero, List.set_cons_succ, Option.some.injEq, exists_eq_left', exists_eq_left, V.bl.injEq, V.int.injEq, V.str.injEq, V.ref.injEq, List.cons.injEq, and_true, true_and, exists_and_left, and_assoc, List.append_nil, st_Table_eq]
  refine isi_own L.i_Table L.c_Table eb ⟨true, rfl, iteT ?_⟩
  exact ⟨_, rfl, a, a_Table, dx, _, .ref d, rfl, ea, L.c_Table, L.n_Table_lines, rfl, _, rfl, b, a_Table, dx', _, .ref d', rfl, eb, L.c_Table, L.n_Table_lines, rfl, dd, k⟩
/-! ### the rules in their order -/
def sortR (rs : List Ru) : List Ru := rs.mergeSort (dataLe false kR)
theorem alike_texts : ∀ a b : Ad, alikeAll (a.map dW) (b.map dW) = true
  | [], _ => by simp [alikeAll]
  | _ :: _, [] => by simp [alikeAll]
  | x :: a, y :: b => by
    show alikeAll (dW x :: a.map dW) (dW y :: b.map dW) = true
    rw [alikeAll, alike_texts a b]
    simp [alike, dW]
theorem alike_dW (a b : Wd) : alike (dW a) (dW b) = true := by simp [alike, dW]
theorem alike_kR (r r' : Ru) : alike (kR r) (kR r') = true := by
  simp only [kR, kA, dA, alike, alikeAll, alike_dW, alike_texts, Bool.and_true, Bool.true_and]
theorem depth_kR (r : Ru) : (kR r).depth ≤ 8 := by
  simp only [kR, kA, dA, PyData.depth, PyData.depthAll, depthAll_W]
  have h : ∀ w : Wd, (dW w).depth = 0 := fun _ => rfl
  rw [h]
  decide
/-- values with their rules -/
theorem zip_vals {K : PySem.W.Frag} {H : Hp} {es : List Ent} {rs : List Ru} (pr : Paired (fun (e : Ent) r => e.1 = keyOf r ∧ RuAt K H e.2.2 r) es rs) :
    ∃ zs : List (Ru × V), zs.map (·.1) = rs ∧ zs.map (·.2) = es.map (·.2.2) ∧ ∀ z ∈ zs, RuAt K H z.2 z.1 := by
  induction pr with
  | nil => exact ⟨[], rfl, rfl, fun z hz => nomatch hz⟩
  | @cons e r es rs h t ih =>
    obtain ⟨zs, h1, h2, h3⟩ := ih
    refine ⟨(r, e.2.2) :: zs, by rw [List.map_cons, h1], by rw [List.map_cons, List.map_cons, h2], fun z hz => ?_⟩
    rcases List.mem_cons.mp hz with rfl | hz
    · exact h.2
    · exact h3 z hz
theorem zip_rus {K : PySem.W.Frag} {H : Hp} : ∀ {zs : List (Ru × V)}, (∀ z ∈ zs, RuAt K H z.2 z.1) → RusAt K H (zs.map (·.2)) (zs.map (·.1))
  | [], _ => .nil
  | z :: zs, h => .cons (h z (List.mem_cons_self ..)) (zip_rus fun y hy => h y (List.mem_cons_of_mem _ hy))
theorem sort_zip (zs : List (Ru × V)) : (zs.mergeSort (dataLe false fun z => kR z.1)).map (·.1) = sortR (zs.map (·.1)) := by
  unfold sortR
  exact List.map_mergeSort fun a _ b _ => rfl
abbrev N_Table_rules : List Str := ["self"]
theorem sc_Table_rules : FnScope N_Table_rules ["self"] (defScope s_Table_rules) := ⟨rfl, rfl, rfl, by decide +kernel, rfl, by decide +kernel, by decide +kernel⟩
theorem st_Table_rules (x0 : V) : L2.start N_Table_rules [x0] = [some x0] := rfl
def p_Table_rules : V → Hp → VK → Prop := fun v H Q => ∃ rs, TblAt P w K H v rs ∧ OkRs rs ∧ ∀ p xs H', Same H H' → SqT K H' p xs → RusAt K H' xs (sortR rs) → Q (.ref p) H'
theorem ok_Table_rules (L : Lw K mg) : FN P w K mg base 5 a_Table_rules (sp1 (p_Table_rules (P := P) (w := w) (K := K))) := by
  obtain ⟨fd, F⟩ := L.Table_rules
  refine fn_any F sc_Table_rules (len1 rfl) (fun _ _ _ _ _ _ us hl => match us, hl with | [_], _ => rfl) fun cdv A outer s H vs Q E hr h => ?_
  obtain ⟨_, rfl, rs, ⟨a, dx, d, rfl, ea, es, ed, ks, pr⟩, ok, k⟩ := h
  have nd := sc_Table_rules.nd
  refine ⟨_, (pss_one (ps_ret (pe_callTy call_tuple_of (by rfl) L.z_tuple (by decide +kernel) (pa_cons (pe_callBK (cr_sortK (kc_def (ok_rule_key L) (hr.mono (by decide))) rfl hr.units) (by rfl) L.z_sorted (by decide +kernel) (pa_cons (pe_values (pe_fld (pv 0) rfl)) pa_nil) (pk_cons (pe_glob (v := .ref a_rule_key) (by rfl) L.g_rule_key rfl) pk_nil)) pa_nil)))), ?_⟩
  simp only [tSl, tPart, tNoPart, tCKw, tVals, gStar, gCons, gNil, StX.tStar, tFmtS, tFmtI, tM0, tJs, tM1, rNewStrs, tMatch, setAll, lit_to, lit_page, lit_section, lit_gone, lit_exact, lit_open, tSeq, tAsg, tIfS, tRet, tRetN, tDrop, tNext, tNever, tOr, tAnd, tNot, tB, tTest, tCB, tCons, tVar, tC, tNil, tOp, tUn, tIf, tAndV, tOrV, tNotV, tChain, tTup, tLst, tCallR, tMethN, tMakeN, tPropN, tYes, gName, cx_K, cx_P, cx_w, rI0, rI, rEq, rNe, List.getElem?_cons_zero, List.getElem?_cons_succ, List.set_cons_zero, List.set_cons_succ, Option.some.injEq, exists_eq_left', exists_eq_left, V.bl.injEq, V.int.injEq, V.str.injEq, V.ref.injEq, List.cons.injEq, and_true, true_and, exists_and_left, and_assoc, List.append_nil, st_Table_rules]
  refine ⟨_, rfl, a, a_Table, dx, _, .ref d, rfl, ea, L.c_Table, L.n_Table_lines, rfl, d, rfl, es, ed, ks, fun r hr0 => ?_⟩
  have s1 := (Same.refl H).nw (o := VwO r d) hr0
  have hrd : d ≠ r := fun z => by rw [z, hr0] at ed; cases ed
  obtain ⟨zs, z1, z2, z3⟩ := zip_vals pr
  have zl : zs.length ≤ 40 := by rw [← List.length_map (f := fun z : Ru × V => z.1), z1]; exact ok.hi
  refine ⟨r, a_rule_key, Ru × V, zs, (·.2), fun z => kR z.1, rfl, rfl, .inr ⟨d, es, upd_same, (upd_ne hrd).trans ed, ks.kt s1.kt, z2⟩, by omega, ?_, ?_, ?_, ?_, ?_⟩
  · intro x hx y hy
    obtain ⟨a, _, rfl⟩ := List.mem_map.mp hx
    obtain ⟨b, _, rfl⟩ := List.mem_map.mp hy
    exact alike_kR _ _
  · refine .inl fun x hx => ?_
    obtain ⟨a, _, rfl⟩ := List.mem_map.mp hx
    exact ⟨_, _, rfl⟩
  · exact fun z _ => depth_kR _
  · exact fun z hz H2 Q' s2 q => ⟨rfl, _, rfl, z.1, (z3 z hz).mono (s1.trans s2), q⟩
  · intro p H2 s2 _ e2
    refine ⟨p, rfl, _, .inl ⟨SqL.of e2, fun l hl => ?_⟩⟩
    have s3 := (Same.refl H2).nw (o := .tup ((zs.mergeSort (dataLe false fun z => kR z.1)).map (·.2))) hl
    refine k l _ _ ((s1.trans s2).trans s3) (SqT.of upd_same) ?_
    have h := zip_rus (K := K) (H := upd H2 l (.tup ((zs.mergeSort (dataLe false fun z => kR z.1)).map (·.2)))) (zs := zs.mergeSort (dataLe false fun z => kR z.1)) fun z hz => (z3 z (List.mem_mergeSort.mp hz)).mono ((s1.trans s2).trans s3)
    rw [sort_zip, z1] at h
    exact h
end
end K88
set_option maxHeartbeats 4000000
/-! Servers. -/
namespace K88
open PySem PySem.Spec PyProof.Rows L2
/-! ### histories of servers -/
abbrev Hs := List (Nat × List Ru)
def SvAt (P : Program) (w : World) (K : PySem.W.Frag) (H : Hp) (a : Addr) (hs : Hs) : Prop := ∃ dx s t ts, H a = some (.ins a_Server dx [("starts", .ref s), ("tables", .ref t)]) ∧ H s = some (.lst (hs.map fun h => V.int (h.1 : Int))) ∧ H t = some (.lst ts) ∧ Paired (fun v h => TblAt P w K H v h.2) ts hs
structure OkHs (hs : Hs) : Prop where
  ok : ∀ h ∈ hs, OkRs h.2
  dy : ∀ h ∈ hs, h.1 ≤ 1000000
  asc : (hs.map (·.1)).Pairwise (· < ·)
  hi : hs.length ≤ 20
theorem SvAt.mono {P : Program} {w : World} {K : PySem.W.Frag} {H H' : Hp} {a : Addr} {hs : Hs} (h : SvAt P w K H a hs) (e : Same H H') : SvAt P w K H' a hs := by
  obtain ⟨dx, s, t, ts, h1, h2, h3, h4⟩ := h
  exact ⟨dx, s, t, ts, e _ _ h1, e _ _ h2, e _ _ h3, paired_imp h4 fun _ _ q => q.mono e⟩
theorem SameB.refl (a : Addr) (H : Hp) : SameB a H H := fun _ _ _ e => e
theorem SameB.self {a : Addr} {H H1 : Hp} {o : HO} (s : SameB a H H1) : SameB a H (upd H1 a o) := fun b u hb e => (upd_ne hb).trans (s b u hb e)
theorem SameB.nw {a p : Addr} {H H1 : Hp} {o : HO} (s : SameB a H H1) (h : H1 p = none) : SameB a H (upd H1 p o) := fun b u hb e => (upd_ne (ne_of_none (s b u hb e) h)).trans (s b u hb e)
theorem SameB.trans {a : Addr} {H H1 H2 : Hp} (s : SameB a H H1) (t : SameB a H1 H2) : SameB a H H2 := fun b u hb e => t b u hb (s b u hb e)
theorem _root_.L2.Same.sb {H H1 : Hp} (s : Same H H1) (a : Addr) : SameB a H H1 := fun b u _ e => s b u e
theorem SameB.kt {a : Addr} {H H' : Hp} {u : HO} (s : SameB a H H') (e : H a = some u) (m : Mut (some u)) : KeepT H H' :=
  ⟨fun b xs q => s b _ (fun z => by rw [z, e] at q; cases q; exact m) q, fun b o v q => s b _ (fun z => by rw [z, e] at q; cases q; exact m) q⟩
theorem DnAt.sb {P : Program} {w : World} {K : PySem.W.Frag} {H H' : Hp} {a d : Addr} {rs : List Ru} {u : HO} (h : DnAt P w K H d rs) (s : SameB a H H') (e : H a = some u) (m : Mut (some u)) (n : ∀ φ, u ≠ .ext φ) : DnAt P w K H' d rs := by
  obtain ⟨es, q, k, p⟩ := h
  have kt := s.kt e m
  exact ⟨es, s _ _ (fun z => by rw [z, e] at q; cases q; exact n _ rfl) q, k.kt kt, paired_imp p fun _ _ z => ⟨z.1, z.2.kt kt⟩⟩
theorem TblAt.sb {P : Program} {w : World} {K : PySem.W.Frag} {H H' : Hp} {a : Addr} {v : V} {rs : List Ru} {u : HO} (h : TblAt P w K H v rs) (s : SameB a H H') (e : H a = some u) (m : Mut (some u)) (n1 : ∀ dx fs, u ≠ .ins a_Table dx fs) (n2 : ∀ φ, u ≠ .ext φ) : TblAt P w K H' v rs := by
  obtain ⟨b, dx, d, rfl, q, z⟩ := h
  exact ⟨b, dx, d, rfl, s _ _ (fun z => by rw [z, e] at q; cases q; exact n1 _ _ rfl) q, z.sb s e m n2⟩
theorem tbls_sb {P : Program} {w : World} {K : PySem.W.Frag} {H H' : Hp} {a : Addr} {ts : List V} {hs : Hs} {u : HO} (h : Paired (fun v (h : Nat × List Ru) => TblAt P w K H v h.2) ts hs) (s : SameB a H H') (e : H a = some u) (m : Mut (some u)) (n1 : ∀ dx fs, u ≠ .ins a_Table dx fs) (n2 : ∀ φ, u ≠ .ext φ) :
    Paired (fun v (h : Nat × List Ru) => TblAt P w K H' v h.2) ts hs := paired_imp h fun _ _ q => TblAt.sb q s e m n1 n2
theorem dpa_ints {K : PySem.W.Frag} {H : Hp} : ∀ hs : Hs, DpAll K H (hs.map fun h => V.int (h.1 : Int)) (hs.map fun h => PyData.int (h.1 : Int))
  | [] => .nil
  | h :: hs => .cons (.int _) (dpa_ints hs)
theorem shaped_ints (hs : Hs) : SeqAt.shaped (.list (hs.map fun h => PyData.int (h.1 : Int))) = true := by
  have h1 : ∀ hs : Hs, PyData.canLayAll0 (hs.map fun h => PyData.int (h.1 : Int)) = true := fun hs => by
    induction hs with
    | nil => rfl
    | cons h hs ih =>
      show (PyData.canLay0 (.int _) && PyData.canLayAll0 (hs.map fun h => PyData.int (h.1 : Int))) = true
      rw [ih] <;> rfl
  have h2 : ∀ hs : Hs, PyData.depthAll (hs.map fun h => PyData.int (h.1 : Int)) = 0 := fun hs => by
    induction hs with
    | nil => rfl
    | cons h hs ih =>
      show max (PyData.depth (.int _)) (PyData.depthAll (hs.map fun h => PyData.int (h.1 : Int))) = 0
      rw [ih] <;> rfl
  show (PyData.canLayAll0 (hs.map fun h => PyData.int (h.1 : Int)) && decide (PyData.depthAll (hs.map fun h => PyData.int (h.1 : Int)) + 1 ≤ 64)) = true
  rw [h1, h2]
  rfl
section
variable {P : Program} {w : World} {K : PySem.W.Frag} {mg : Str → Option Value} {base : Heap}
abbrev N_Server_init : List Str := ["self"]
theorem sc_Server_init : FnScope N_Server_init ["self"] (defScope s_Server_init) := ⟨rfl, rfl, rfl, by decide +kernel, rfl, by decide +kernel, by decide +kernel⟩
theorem st_Server_init (x0 : V) : L2.start N_Server_init [x0] = [some x0] := rfl
def p_Server_init : V → Hp → VK → Prop := fun t H Q => ∃ a dx, t = .ref a ∧ H a = some (.ins a_Server dx []) ∧ ∀ H', SameB a H H' → SvAt P w K H' a [] → Q .non H'
theorem ok_Server_init (L : Lw K mg) : FN P w K mg base 1 a_Server_init (sp1 (p_Server_init (P := P) (w := w) (K := K))) := by
  obtain ⟨fd, F⟩ := L.Server_init
  refine fn_any F sc_Server_init (len1 rfl) (fun _ _ _ _ _ _ us hl => match us, hl with | [_], _ => rfl) fun cdv A outer s H vs Q E hr h => ?_
  obtain ⟨_, rfl, a, dx, rfl, ea, k⟩ := h
  have nd := sc_Server_init.nd
  refine ⟨_, (pss_cons (ps_fld (pv 0) (pe_lst pa_nil) rfl) (pss_one (ps_fld (pv 0) (pe_lst pa_nil) rfl))), ?_⟩
  simp only [tSl, tPart, tNoPart, tCKw, tVals, gStar, gCons, gNil, StX.tStar, tFmtS, tFmtI, tM0, tJs, tM1, rNewStrs, tMatch, setAll, lit_to, lit_page, lit_section, lit_gone, lit_exact, lit_open, tSeq, tAsg, tIfS, tRet, tRetN, tDrop, tNext, tNever, tOr, tAnd, tNot, tB, tTest, tCB, tCons, tVar, tC, tNil, tOp, tUn, tIf, tAndV, tOrV, tNotV, tChain, tTup, tLst, tCallR, tMethN, tMakeN, tPropN, tYes, gName, cx_K, cx_P, cx_w, rI0, rI, rEq, rNe, List.getElem?_cons_zero, List.getElem?_cons_succ, List.set_cons_zero, List.set_cons_succ, Option.some.injEq, exists_eq_left', exists_eq_left, V.bl.injEq, V.int.injEq, V.str.injEq, V.ref.injEq, List.cons.injEq, and_true, true_and, exists_and_left, and_assoc, List.append_nil, st_Server_init]
  refine ⟨szl rfl, fun p1 h1 => ⟨_, rfl, a, a_Server, dx, [], rfl, ?_, L.c_Server, L.n_Server_starts, by decide, szl rfl, fun p2 h2 => ⟨_, rfl, a, a_Server, dx, [(Str.ofString "starts", .ref p1)], rfl, ?_, L.c_Server, L.n_Server_tables, Nat.le_of_ble_eq_true rfl, ?_⟩⟩⟩
  · have n1 : a ≠ p1 := ne_of_none ea h1
    exact (upd_ne n1).trans ea
  · have n1 : a ≠ p1 := ne_of_none ea h1
    have n2 : a ≠ p2 := fun z => by rw [← z, upd_same] at h2; cases h2
    exact (upd_ne n2).trans upd_same
  · have n1 : a ≠ p1 := ne_of_none ea h1
    have n2 : a ≠ p2 := fun z => by rw [← z, upd_same] at h2; cases h2
    have n3 : p1 ≠ p2 := fun z => by rw [← z, upd_ne n1.symm, upd_same] at h2; cases h2
    have h2' : H p2 = none := by rw [upd_ne n2.symm, upd_ne n3.symm] at h2; exact h2
    refine k _ (fun b o hb e => ?_) ⟨dx, p1, p2, [], upd_same, ?_, ?_, .nil⟩
    · rw [upd_ne hb, upd_ne (ne_of_none e h2'), upd_ne hb, upd_ne (ne_of_none e h1)]
      exact e
    · rw [upd_ne n1.symm, upd_ne n3, upd_ne n1.symm, upd_same] <;> rfl
    · rw [upd_ne n2.symm, upd_same]
abbrev N_Server_days : List Str := ["self"]
theorem sc_Server_days : FnScope N_Server_days ["self"] (defScope s_Server_days) := ⟨rfl, rfl, rfl, by decide +kernel, rfl, by decide +kernel, by decide +kernel⟩
theorem st_Server_days (x0 : V) : L2.start N_Server_days [x0] = [some x0] := rfl
def p_Server_days : V → Hp → VK → Prop := fun v H Q => ∃ a hs, v = .ref a ∧ SvAt P w K H a hs ∧ ∀ p H', Same H H' → H p = none → H' p = some (.lst (hs.map fun h => V.int (h.1 : Int))) → Q (.ref p) H'
theorem ok_Server_days (L : Lw K mg) : FN P w K mg base 1 a_Server_days (sp1 (p_Server_days (P := P) (w := w) (K := K))) := by
  obtain ⟨fd, F⟩ := L.Server_days
  refine fn_any F sc_Server_days (len1 rfl) (fun _ _ _ _ _ _ us hl => match us, hl with | [_], _ => rfl) fun cdv A outer s H vs Q E hr h => ?_
  obtain ⟨_, rfl, a, hs, rfl, ⟨dx, p, t, ts, h1, h2, h3, h4⟩, k⟩ := h
  have nd := sc_Server_days.nd
  refine ⟨_, (pss_one (ps_ret (pe_callTy call_list_of (by rfl) L.z_list (by decide +kernel) (pa_cons (pe_fld (pv 0) rfl) pa_nil)))), ?_⟩
  simp only [tSl, tPart, tNoPart, tCKw, tVals, gStar, gCons, gNil, StX.tStar, tFmtS, tFmtI, tM0, tJs, tM1, rNewStrs, tMatch, setAll, lit_to, lit_page, lit_section, lit_gone, lit_exact, lit_open, tSeq, tAsg, tIfS, tRet, tRetN, tDrop, tNext, tNever, tOr, tAnd, tNot, tB, tTest, tCB, tCons, tVar, tC, tNil, tOp, tUn, tIf, tAndV, tOrV, tNotV, tChain, tTup, tLst, tCallR, tMethN, tMakeN, tPropN, tYes, gName, cx_K, cx_P, cx_w, rI0, rI, rEq, rNe, List.getElem?_cons_zero, List.getElem?_cons_succ, List.set_cons_zero, List.set_cons_succ, Option.some.injEq, exists_eq_left', exists_eq_left, V.bl.injEq, V.int.injEq, V.str.injEq, V.ref.injEq, List.cons.injEq, and_true, true_and, exists_and_left, and_assoc, List.append_nil, st_Server_days]
  exact fld_at rfl h1 L.c_Server L.n_Server_starts rfl ⟨p, rfl, _, .inl (SqL.of h2), fun l hl => k l _ ((Same.refl H).nw hl) hl upd_same⟩
abbrev N_Server_set_table : List Str := ["self", "day", "table"]
theorem sc_Server_set_table : FnScope N_Server_set_table ["self", "day", "table"] (defScope s_Server_set_table) := ⟨rfl, rfl, rfl, by decide +kernel, rfl, by decide +kernel, by decide +kernel⟩
theorem st_Server_set_table (x0 x1 x2 : V) : L2.start N_Server_set_table [x0, x1, x2] = [some x0, some x1, some x2] := rfl
/-- .. its two lists new -/
def SvX (P : Program) (w : World) (K : PySem.W.Frag) (H H' : Hp) (a : Addr) (hs : Hs) : Prop := ∃ dx s t ts, H s = none ∧ H t = none ∧ H' a = some (.ins a_Server dx [("starts", .ref s), ("tables", .ref t)]) ∧ H' s = some (.lst (hs.map fun h => V.int (h.1 : Int))) ∧ H' t = some (.lst ts) ∧ Paired (fun v h => TblAt P w K H' v h.2) ts hs
theorem SvX.at {P : Program} {w : World} {K : PySem.W.Frag} {H H' : Hp} {a : Addr} {hs : Hs} (h : SvX P w K H H' a hs) : SvAt P w K H' a hs := let ⟨dx, s, t, ts, _, _, r⟩ := h; ⟨dx, s, t, ts, r⟩
def p_Server_set_table : V → V → V → Hp → VK → Prop := fun v dv tv H Q => ∃ a hs d rs, v = .ref a ∧ dv = .int ((d : Nat) : Int) ∧ SvAt P w K H a hs ∧ TblAt P w K H tv rs ∧ d ≤ 1000000 ∧ (∀ h ∈ hs, h.1 < d) ∧ hs.length ≤ 100 ∧ ∀ H', SameB a H H' → SvX P w K H H' a (hs ++ [(d, rs)]) → Q .non H'
theorem ok_Server_set_table (L : Lw K mg) : FN P w K mg base 3 a_Server_set_table (sp3 (p_Server_set_table (P := P) (w := w) (K := K))) := by
  obtain ⟨fd, F⟩ := L.Server_set_table
  refine fn_any F sc_Server_set_table (len3 rfl) (fun _ _ _ _ _ _ us hl => match us, hl with | [_, _, _], _ => rfl) fun cdv A outer s H vs Q E hr h => ?_
  obtain ⟨_, _, tv, rfl, a, hs, d, rs, rfl, rfl, hv, ht, hd, has, hl, k⟩ := h
  have nd := sc_Server_set_table.nd
  refine ⟨_, (pss_cons (ps_if (PW.pt (pw_or (pt_not (pt_val (pe_g (ok_is_day L) (hr.mono (by decide)) rfl L.g_is_day L.is_day.kp (pa_cons (pv 1) pa_nil)))) (pw_or1 (PW.pt (pw_and (pt_cmpR (op_neD hr.units) (pe_fld (pv 0) rfl) (pe_lst pa_nil) (nomark _)) (pw_and1 (pt_cmpR op_le (pv 1) (pe_ix (ix_listK (K := K) rfl) (pe_fld (pv 0) rfl) (pe_un un_neg pe_int) (fun _ _ => rfl)) (nomark _)))))))) (pss_one ps_never) pss_nil) (pss_cons (ps_if (pt_not (pt_val (pe_callB call_isi (by rfl) L.z_isinstance (by decide +kernel) (pa_cons (pv 2) (pa_cons (pe_glob (v := .ref a_Table) (by rfl) L.g_Table rfl) pa_nil))))) (pss_one ps_never) pss_nil) (pss_cons (ps_fld (pv 0) (pe_lst (StX.pa_star (pe_fld (pv 0) rfl) (pa_cons (pv 1) pa_nil))) rfl) (pss_one (ps_fld (pv 0) (pe_lst (StX.pa_star (pe_fld (pv 0) rfl) (pa_cons (pv 2) pa_nil))) rfl))))), ?_⟩
  simp only [tSl, tPart, tNoPart, tCKw, tVals, gStar, gCons, gNil, StX.tStar, tFmtS, tFmtI, tM0, tJs, tM1, rNewStrs, tMatch, setAll, lit_to, lit_page, lit_section, lit_gone, lit_exact, lit_open, tAsg, tRet, tRetN, tDrop, tNext, tNever, tNot, tB, tTest, tCB, tCons, tVar, tC, tNil, tOp, tUn, tAndV, tOrV, tNotV, tChain, tTup, tLst, tCallR, tMethN, tMakeN, tPropN, tYes, gName, cx_K, cx_P, cx_w, rI0, rI, rEq, rNe, List.getElem?_cons_zero, List.getElem?_cons_succ, List.set_cons_zero, List.set_cons_succ, Option.some.injEq, exists_eq_left', exists_eq_left, V.bl.injEq, V.int.injEq, V.str.injEq, V.ref.injEq, List.cons.injEq, and_true, true_and, exists_and_left, and_assoc, List.append_nil, st_Server_set_table]
  obtain ⟨dx, p, t, ts, h1, h2, h3, h4⟩ := id hv
  have hd0 : (0 : Int) ≤ d := Int.natCast_nonneg d
  refine sif_nx (fun R r => ?_) fun H1 s1 => ?_
  · simp only [tSl, tPart, tNoPart, tCKw, tVals, gStar, gCons, gNil, StX.tStar, tFmtS, tFmtI, tM0, tJs, tM1, rNewStrs, tMatch, setAll, lit_to, lit_page, lit_section, lit_gone, lit_exact, lit_open, tSeq, tAsg, tIfS, tRet, tRetN, tDrop, tNext, tNever, tOr, tAnd, tNot, tB, tTest, tCB, tCons, tVar, tC, tNil, tOp, tUn, tIf, tAndV, tOrV, tNotV, tChain, tTup, tLst, tCallR, tMethN, tMakeN, tPropN, tYes, gName, cx_K, cx_P, cx_w, rI0, rI, rEq, rNe, List.getElem?_cons_zero, List.getElem?_cons_succ, List.set_cons_zero, List.set_cons_succ, Option.some.injEq, exists_eq_left', exists_eq_left, V.bl.injEq, V.int.injEq, V.str.injEq, V.ref.injEq, List.cons.injEq, and_true, true_and, exists_and_left, and_assoc, List.append_nil]
    refine ⟨_, rfl, d, rfl, hd0, by omega, fun H1 s1 => ⟨true, rfl, iteF ?_⟩⟩
    refine fld_at rfl (s1 _ _ h1) L.c_Server L.n_Server_starts rfl ⟨szl rfl, fun q hq => ?_⟩
    have s2 := (Same.refl H1).nw (o := .lst []) hq
    refine ⟨.list (hs.map fun h => PyData.int (h.1 : Int)), .list [], .lst (SqL.of (s2 _ _ (s1 _ _ h2))) (dpa_ints hs), .lst (SqL.of upd_same) .nil, shaped_ints hs, rfl, ?_⟩
    rcases List.eq_nil_or_concat hs with rfl | ⟨i, l, e⟩
    · exact ⟨false, rfl, iteF (r _ (s1.trans s2))⟩
    · rw [List.concat_eq_append] at e
      subst e
      refine ⟨true, by cases i <;> rfl, iteT ?_⟩
      have hl1 := has l (List.mem_append_right _ (List.mem_singleton.mpr rfl))
      refine fld_at rfl (s2 _ _ (s1 _ _ h1)) L.c_Server L.n_Server_starts rfl ⟨_, rfl, p, _, _, .int (l.1 : Int), rfl, rfl, SqL.of (s2 _ _ (s1 _ _ h2)), ?_, _, rfl, ?_⟩
      · rw [List.map_append]
        exact atI_last _ _
      · rw [decide_eq_false (by omega)]
        exact r _ (s1.trans s2)
  refine sif_nx (fun R r => ?_) fun H2 s2 => ?_
  · obtain ⟨ta, tdx, td, rfl, et, _⟩ := ht
    simp only [tSl, tPart, tNoPart, tCKw, tVals, gStar, gCons, gNil, StX.tStar, tFmtS, tFmtI, tM0, tJs, tM1, rNewStrs, tMatch, setAll, lit_to, lit_page, lit_section, lit_gone, lit_exact, lit_open, tSeq, tAsg, tIfS, tRet, tRetN, tDrop, tNext, tNever, tOr, tAnd, tNot, tB, tTest, tCB, tCons, tVar, tC, tNil, tOp, tUn, tIf, tAndV, tOrV, tNotV, tChain, tTup, tLst, tCallR, tMethN, tMakeN, tPropN, tYes, gName, cx_K, cx_P, cx_w, rI0, rI, rEq, rNe, List.getElem?_cons_zero, List.getElem?_cons_succ, List.set_cons_zero, List.set_cons_succ, Option.some.injEq, exists_eq_left', exists_eq_left, V.bl.injEq, V.int.injEq, V.str.injEq, V.ref.injEq, List.cons.injEq, and_true, true_and, exists_and_left, and_assoc, List.append_nil]
    exact isi_own L.i_Table L.c_Table (s1 _ _ et) ⟨true, rfl, r H1 (Same.refl H1)⟩
  have s3 := s1.trans s2
  have h1 := s3 _ _ h1
  have h2 := s3 _ _ h2
  have h3 := s3 _ _ h3
  have ht := ht.mono s3
  have h4 := paired_imp h4 fun _ _ q => q.mono s3
  simp only [tSl, tPart, tNoPart, tCKw, tVals, gStar, gCons, gNil, StX.tStar, tFmtS, tFmtI, tM0, tJs, tM1, rNewStrs, tMatch, setAll, lit_to, lit_page, lit_section, lit_gone, lit_exact, lit_open, tSeq, tAsg, tIfS, tRet, tRetN, tDrop, tNext, tNever, tOr, tAnd, tNot, tB, tTest, tCB, tCons, tVar, tC, tNil, tOp, tUn, tIf, tAndV, tOrV, tNotV, tChain, tTup, tLst, tCallR, tMethN, tMakeN, tPropN, tYes, gName, cx_K, cx_P, cx_w, rI0, rI, rEq, rNe, List.getElem?_cons_zero, List.getElem?_cons_succ, List.set_cons_zero, List.set_cons_succ, Option.some.injEq, exists_eq_left', exists_eq_left, V.bl.injEq, V.int.injEq, V.str.injEq, V.ref.injEq, List.cons.injEq, and_true, true_and, exists_and_left, and_assoc, List.append_nil, sFld]
  refine fld_at (i := 0) rfl h1 L.c_Server L.n_Server_starts rfl ⟨p, rfl, _, .inr (SqL.of h2), Nat.le_trans (show _ ≤ 200 by rw [List.length_append, List.length_map]; show hs.length + 1 ≤ 200; omega) (by decide), fun q1 f1 => ⟨a_Server, dx, _, (upd_ne (ne_of_none h1 f1)).trans h1, L.c_Server, L.n_Server_starts, Nat.le_of_ble_eq_true rfl, ?_⟩⟩
  have n1 := ne_of_none h1 f1
  have n2 := ne_of_none h3 f1
  have n3 := ne_of h1 h3 (fun z => nomatch z)
  refine fld_at (i := 0) rfl upd_same L.c_Server L.n_Server_tables rfl ⟨t, rfl, ts, .inr (SqL.of ((upd_ne n3.symm).trans ((upd_ne n2).trans h3))), Nat.le_trans (show _ ≤ 200 by rw [List.length_append, Paired.length h4]; show hs.length + 1 ≤ 200; omega) (by decide), fun q2 f2 => ⟨a_Server, dx, _, (upd_ne (fun z => by rw [← z, upd_same] at f2; cases f2)).trans upd_same, L.c_Server, L.n_Server_tables, Nat.le_of_ble_eq_true rfl, ?_⟩⟩
  have n4 : q2 ≠ a := fun z => by rw [z, upd_same] at f2; cases f2
  have n5 : q2 ≠ q1 := fun z => by rw [z, upd_ne n1.symm, upd_same] at f2; cases f2
  have f2' : H2 q2 = none := by rw [upd_ne n4, upd_ne n5] at f2; exact f2
  have sb := (((SameB.refl a H2).nw (o := .lst (hs.map (fun h => V.int (h.1 : Int)) ++ [V.int (d : Int)])) f1).self).nw (o := .lst (ts ++ [tv])) f2
  have sb := fun o => sb.self (o := o)
  refine k _ (fun b o hb e => sb _ b o hb (s3 b o e)) ⟨dx, q1, q2, ts ++ [tv], s3.free f1, s3.free f2', upd_same, ?_, ?_, ?_⟩
  · rw [upd_ne n1.symm, upd_ne n5.symm, upd_ne n1.symm, upd_same, List.map_append]
    rfl
  · rw [upd_ne n4, upd_same]
  · exact paired_snoc (F := fun v (h : Nat × List Ru) => TblAt P w K _ v h.2) (y := (d, rs)) (ht.sb (sb _) h1 trivial (fun _ _ z => by injection z with z; exact absurd z (by decide)) (fun _ z => nomatch z)) (tbls_sb h4 (sb _) h1 trivial (fun _ _ z => by injection z with z; exact absurd z (by decide)) (fun _ z => nomatch z))
abbrev N_Server_count_on : List Str := ["self", "day", "start"]
theorem sc_Server_count_on : FnScope N_Server_count_on ["self", "day"] (defScope s_Server_count_on) := ⟨rfl, rfl, rfl, by decide +kernel, rfl, by decide +kernel, by decide +kernel⟩
theorem st_Server_count_on (x0 x1 : V) : L2.start N_Server_count_on [x0, x1] = [some x0, some x1, none] := rfl
def p_Server_count_on : V → V → Hp → VK → Prop := fun v dv H Q => ∃ a hs d, v = .ref a ∧ dv = .int ((d : Nat) : Int) ∧ SvAt P w K H a hs ∧ hs.length ≤ 100 ∧ RetV H Q (.int (((hs.filter fun h => decide (h.1 ≤ d)).length : Nat) : Int))
theorem ok_Server_count_on (L : Lw K mg) : FN P w K mg base 1 a_Server_count_on (sp2 (p_Server_count_on (P := P) (w := w) (K := K))) := by
  obtain ⟨fd, F⟩ := L.Server_count_on
  refine fn_any F sc_Server_count_on (len2 rfl) (fun _ _ _ _ _ _ us hl => match us, hl with | [_, _], _ => rfl) fun cdv A outer s H vs Q E hr h => ?_
  obtain ⟨_, _, rfl, a, hs, d, rfl, rfl, ⟨dx, p, t, ts, h1, h2, h3, h4⟩, hl, k⟩ := h
  have nd := sc_Server_count_on.nd
  refine ⟨_, (pss_one (ps_ret (pe_callB call_len (by rfl) L.z_len (by decide +kernel) (pa_cons (pe_lc (own := [("start", 2)]) (g := gName 2) rfl nd (pi_list (pe_fld (pv 0) rfl)) (blkOk_by (N := N_Server_count_on) (sc := defScope s_Server_count_on) (by decide +kernel)) (fun _ _ _ _ _ => (pg_name (i := 2) nd rfl (Or.inl rfl))) (fun _ _ _ _ _ => pts_one (pt_cmpR op_le (pv 2) (pv 1) (nomark _))) (fun _ _ _ _ _ => (pv 2))) pa_nil)))), ?_⟩
  simp only [tSl, tPart, tNoPart, tCKw, tVals, gStar, gCons, gNil, StX.tStar, tFmtS, tFmtI, tM0, tJs, tM1, rNewStrs, tMatch, setAll, lit_to, lit_page, lit_section, lit_gone, lit_exact, lit_open, tSeq, tAsg, tIfS, tRet, tRetN, tDrop, tNext, tNever, tOr, tAnd, tNot, tB, tTest, tCB, tCons, tVar, tC, tNil, tOp, tUn, tIf, tAndV, tOrV, tNotV, tChain, tTup, tLst, tCallR, tMethN, tMakeN, tPropN, tYes, gName, cx_K, cx_P, cx_w, rI0, rI, rEq, rNe, List.getElem?_cons_zero, List.getElem?_cons_succ, List.set_cons_zero, List.set_cons_succ, Option.some.injEq, exists_eq_left', exists_eq_left, V.bl.injEq, V.int.injEq, V.str.injEq, V.ref.injEq, List.cons.injEq, and_true, true_and, exists_and_left, and_assoc, List.append_nil, st_Server_count_on]
  have hlm : (hs.map fun h => V.int (h.1 : Int)).length = hs.length := by rw [List.length_map]
  refine tLc_w (walk_list (a := p) (xs := hs.map fun h => V.int (h.1 : Int))) (fun R h => fld_at rfl h1 L.c_Server L.n_Server_starts rfl ⟨p, rfl, ⟨_, SqL.of h2⟩, h⟩) (fun D i H' => ∃ acc, H' D = some (.lst acc) ∧ acc.length = ((hs.take i).filter fun h => decide (h.1 ≤ d)).length ∧ Same H H')
    (fun D hD => ⟨[], upd_same, rfl, (Same.refl H).nw hD⟩) (fun D i H' hD _ q => let ⟨_, _, _, s⟩ := q; SqL.of (s _ _ h2)) ?_ ?_
  · rintro D i x H1 H2 hD hi ⟨acc, eD, el, s1⟩ ⟨rfl, hx⟩
    rw [List.getElem?_map] at hx
    obtain ⟨hh, hq, rfl⟩ := Option.map_eq_some_iff.mp hx
    have ew : (hs.take (i + 1)).filter (fun h => decide (h.1 ≤ d)) = (hs.take i).filter (fun h => decide (h.1 ≤ d)) ++ (if hh.1 ≤ d then [hh] else []) := by
      rw [List.take_add_one, hq, List.filter_append]
      by_cases q : hh.1 ≤ d <;> simp [q]
    refine ⟨rfl, ?_⟩
    simp only [tSl, tPart, tNoPart, tCKw, tVals, gStar, gCons, gNil, StX.tStar, tFmtS, tFmtI, tM0, tJs, tM1, rNewStrs, tMatch, setAll, lit_to, lit_page, lit_section, lit_gone, lit_exact, lit_open, tSeq, tAsg, tIfS, tRet, tRetN, tDrop, tNext, tNever, tOr, tAnd, tNot, tB, tTest, tCB, tCons, tVar, tC, tNil, tOp, tUn, tIf, tAndV, tOrV, tNotV, tChain, tTup, tLst, tCallR, tMethN, tMakeN, tPropN, tYes, gName, cx_K, cx_P, cx_w, rI0, rI, rEq, rNe, List.getElem?_cons_zero, List.getElem?_cons_succ, List.set_cons_zero, List.set_cons_succ, Option.some.injEq, exists_eq_left', exists_eq_left, V.bl.injEq, V.int.injEq, V.str.injEq, V.ref.injEq, List.cons.injEq, and_true, true_and, exists_and_left, and_assoc, List.append_nil]
    refine ⟨_, rfl, _, rfl, _, rfl, _, rfl, ?_⟩
    have hacc : acc.length ≤ 100 := by
      rw [el]
      refine Nat.le_trans (List.length_filter_le _ _) ?_
      rw [List.length_take]
      omega
    by_cases q : hh.1 ≤ d
    · rw [if_pos (decide_eq_true (by omega))]
      refine ⟨_, rfl, acc, eD, Nat.lt_of_le_of_lt hacc (by decide), _, upd_same, ?_, s1.mt hD⟩
      rw [ew, if_pos q, List.length_append, List.length_append, el]
      rfl
    · rw [if_neg (by rw [decide_eq_false (by omega)]; decide)]
      refine ⟨acc, eD, ?_, s1⟩
      rw [ew, if_neg q, List.append_nil]
      exact el
  · rintro D H1 hD ⟨acc, eD, el, s1⟩
    rw [hlm, List.take_length] at el
    refine ⟨_, .inl ⟨acc, SqL.of eD, rfl⟩, ?_⟩
    rw [el]
    exact k H1 s1
abbrev N_Server_table : List Str := ["self", "day", "count"]
theorem sc_Server_table : FnScope N_Server_table ["self", "day"] (defScope s_Server_table) := ⟨rfl, rfl, rfl, by decide +kernel, rfl, by decide +kernel, by decide +kernel⟩
theorem st_Server_table (x0 x1 : V) : L2.start N_Server_table [x0, x1] = [some x0, some x1, none] := rfl
def p_Server_table : V → V → Hp → VK → Prop := fun v dv H Q => ∃ a hs d i rs, v = .ref a ∧ dv = .int ((d : Nat) : Int) ∧ SvAt P w K H a hs ∧ hs.length ≤ 100 ∧ hs[i]? = some (d, rs) ∧ (hs.filter fun h => decide (h.1 ≤ d)).length = i + 1 ∧ ∀ tv H', Same H H' → TblAt P w K H' tv rs → Q tv H'
theorem ok_Server_table (L : Lw K mg) : FN P w K mg base 10 a_Server_table (sp2 (p_Server_table (P := P) (w := w) (K := K))) := by
  obtain ⟨fd, F⟩ := L.Server_table
  refine fn_any F sc_Server_table (len2 rfl) (fun _ _ _ _ _ _ us hl => match us, hl with | [_, _], _ => rfl) fun cdv A outer s H vs Q E hr h => ?_
  obtain ⟨_, _, rfl, a, hs, d, i, rs, rfl, rfl, hv, hl, hi, hc, k⟩ := h
  have nd := sc_Server_table.nd
  refine ⟨_, (pss_cons (ps_set (i := 2) nd rfl (Or.inl rfl) (pe_m (pv 0) L.c_Server L.m_Server_count_on (ok_Server_count_on L) (hr.mono (by decide)) (pa_cons (pv 1) pa_nil))) (pss_one (ps_ret (pe_ifExp (pt_cmpR op_gt (pv 2) pe_int (nomark _)) (pe_ix (ix_listK (K := K) rfl) (pe_fld (pv 0) rfl) (pe_op op_sub (pv 2) pe_int) (fun _ _ => rfl)) (pe_mk0 L.mk_Table (ok_Table_init0 L) (hr.mono (by decide)) rfl L.g_Table))))), ?_⟩
  simp only [tSl, tPart, tNoPart, tCKw, tVals, gStar, gCons, gNil, StX.tStar, tFmtS, tFmtI, tM0, tJs, tM1, rNewStrs, tMatch, setAll, lit_to, lit_page, lit_section, lit_gone, lit_exact, lit_open, tSeq, tAsg, tIfS, tRet, tRetN, tDrop, tNext, tNever, tOr, tAnd, tNot, tB, tTest, tCB, tCons, tVar, tC, tNil, tOp, tUn, tIf, tAndV, tOrV, tNotV, tChain, tTup, tLst, tCallR, tMethN, tMakeN, tPropN, tYes, gName, cx_K, cx_P, cx_w, rI0, rI, rEq, rNe, List.getElem?_cons_zero, List.getElem?_cons_succ, List.set_cons_zero, List.set_cons_succ, Option.some.injEq, exists_eq_left', exists_eq_left, V.bl.injEq, V.int.injEq, V.str.injEq, V.ref.injEq, List.cons.injEq, and_true, true_and, exists_and_left, and_assoc, List.append_nil, st_Server_table]
  obtain ⟨dx, p, t, ts, h1, h2, h3, h4⟩ := id hv
  refine ⟨dx, _, h1, rfl, _, _, rfl, a, hs, d, rfl, rfl, hv, hl, fun H1 s1 => ⟨_, rfl, ?_⟩⟩
  rw [hc, if_pos (decide_eq_true (by omega))]
  obtain ⟨v, hv1, hv2⟩ : ∃ v, ts[i]? = some v ∧ TblAt P w K H v rs := by
    have hil := (List.getElem?_eq_some_iff.mp hi).1
    have e1 : ts[i]? = some (ts[i]'(by rw [Paired.length h4]; exact hil)) := List.getElem?_eq_getElem _
    obtain ⟨y, e2, q⟩ := paired_get h4 e1
    rw [hi] at e2
    cases e2
    exact ⟨_, e1, q⟩
  refine fld_at rfl (s1 _ _ h1) L.c_Server L.n_Server_tables rfl ⟨_, rfl, t, ts, _, v, rfl, rfl, SqL.of (s1 _ _ h3), ?_, k v H1 s1 (hv2.mono s1)⟩
  rw [show (((i + 1 : Nat) : Int) - 1) = (i : Int) by omega]
  exact atI_nat hv1
end
end K88
set_option maxHeartbeats 4000000
/-! Servers are equal. -/
namespace K88
open PySem PySem.Spec PyProof.Rows L2
def dAn : An → PyData
  | .gone => .tuple [dW sGone]
  | .page n => .tuple [dW sPage, dW n]
  | .section n => .tuple [dW sSection, dW n]
  | .to t d => .tuple [dW sTo, dA t, .int (d : Int)]
def dR (r : Ru) : PyData := .tuple [dW (sortOf r.ex), dA r.at_, dAn r.an]
theorem AnAt.dp {K : PySem.W.Frag} {H : Hp} {v : V} {a : An} (h : AnAt K H v a) : Dp K H v (dAn a) := by
  cases a with
  | gone => obtain ⟨p, rfl, q⟩ := h; exact .tup q (.cons (.str _) .nil)
  | page n => obtain ⟨p, rfl, q⟩ := h; exact .tup q (.cons (.str _) (.cons (.str _) .nil))
  | «section» n => obtain ⟨p, rfl, q⟩ := h; exact .tup q (.cons (.str _) (.cons (.str _) .nil))
  | to t d => obtain ⟨p, u, rfl, q, z⟩ := h; exact .tup q (.cons (.str _) (.cons z.dp (.cons (.int _) .nil)))
theorem RuAt.dp {K : PySem.W.Frag} {H : Hp} {v : V} {r : Ru} (h : RuAt K H v r) : Dp K H v (dR r) := by
  obtain ⟨p, x, y, rfl, q, a, b⟩ := h
  exact .tup q (.cons (.str _) (.cons a.dp (.cons b.dp .nil)))
theorem lay_lit (w : Wd) (h : w.all (· < 1114112) = true) : (dW w).canLay0 = true := lay_W fun c hc => of_decide_eq_true (List.all_eq_true.mp h c hc)
theorem lay_sort (b : Bool) : (dW (sortOf b)).canLay0 = true := by cases b <;> exact lay_lit _ rfl
theorem lay_A {a : Ad} (h : ∀ w ∈ a, OkW w) : (dA a).canLay0 = true := layAll_W h
theorem lay_An {ex : Bool} {a : An} (ok : OkAn ex a) : (dAn a).canLay0 = true := by
  cases a with
  | gone =>
    show ((dW sGone).canLay0 && true) = true
    rw [lay_lit sGone rfl]
    rfl
  | page n =>
    show ((dW sPage).canLay0 && ((dW n).canLay0 && true)) = true
    rw [lay_lit sPage rfl, ok.2.lay]
    rfl
  | «section» n =>
    show ((dW sSection).canLay0 && ((dW n).canLay0 && true)) = true
    rw [lay_lit sSection rfl, ok.2.lay]
    rfl
  | to t d =>
    show ((dW sTo).canLay0 && ((dA t).canLay0 && true)) = true
    rw [lay_lit sTo rfl, lay_A ok.1.ok]
    rfl
theorem depth_A (a : Ad) : (dA a).depth = 1 := by
  show PyData.depthAll (a.map dW) + 1 = 1
  rw [depthAll_W]
theorem depth_An (a : An) : (dAn a).depth ≤ 2 := by
  cases a with
  | gone => exact Nat.le_of_ble_eq_true rfl
  | page n => exact Nat.le_of_ble_eq_true rfl
  | «section» n => exact Nat.le_of_ble_eq_true rfl
  | to t d =>
    show max 0 (max (dA t).depth (max 0 0)) + 1 ≤ 2
    rw [depth_A]
    decide
theorem shaped_R {r : Ru} (ok : OkR r) : SeqAt.shaped (dR r) = true := by
  have h1 := depth_An r.an
  refine Bool.and_eq_true_iff.mpr ⟨?_, decide_eq_true ?_⟩
  · show ((dW (sortOf r.ex)).canLay0 && ((dA r.at_).canLay0 && ((dAn r.an).canLay0 && true))) = true
    rw [lay_sort, lay_A ok.at_.ok, lay_An ok.an]
    rfl
  · show max 0 (max (dA r.at_).depth (max (dAn r.an).depth 0)) + 1 ≤ 64
    rw [depth_A]
    omega
theorem tblEq_of {P : Program} {w : World} {K : PySem.W.Frag} {H : Hp} {v v' : V} {rs rs' : List Ru} (h : TblAt P w K H v rs) (h' : TblAt P w K H v' rs') (pm : rs'.Perm rs) (ok : OkRs rs) : ∃ a b, v = .ref a ∧ v' = .ref b ∧ TblEq P w K a b H := by
  obtain ⟨a, dx, d, rfl, ea, es, ed, ks, pr⟩ := h
  obtain ⟨b, dy, d', rfl, eb, fs, ed', ks', pr'⟩ := h'
  refine ⟨a, b, rfl, rfl, dx, d, dy, d', ea, eb, d, d', es, fs, rfl, rfl, ed, ed', ks, ks', ?_, fun e he => ?_⟩
  · rw [Paired.length pr, Paired.length pr', pm.length_eq]
  · obtain ⟨r, hr, e1, e2⟩ := paired_mem pr e he
    obtain ⟨f, hf, f1, f2⟩ := paired_mem' pr' r (pm.mem_iff.mpr hr)
    have sh := shaped_R (ok.ok r hr)
    exact ⟨f, hf, f1.trans e1.symm, dR r, e2.dp, f2.dp, sh, SeqAt.eqv_refl _ (SeqAt.canLay_of_shaped sh)⟩
theorem mon_tbl {P : Program} {w : World} {K : PySem.W.Frag} : Mon (DIns a_Table (TblEq P w K)) := mon_ins fun a b H H' e h => by
  obtain ⟨dx, d, dx', d', h1, h2, x, y, es, fs, z1, z2, h3, h4, k1, k2, hl, hp⟩ := h
  have s : Same H H' := e
  refine ⟨dx, d, dx', d', e _ _ h1, e _ _ h2, x, y, es, fs, z1, z2, e _ _ h3, e _ _ h4, k1.kt s.kt, k2.kt s.kt, hl, fun q hq => ?_⟩
  obtain ⟨f, hf, f1, d, d1, d2, rest⟩ := hp q hq
  exact ⟨f, hf, f1, d, dp_mono s d1, dp_mono s d2, rest⟩
theorem rcG_tables {X : Cx} (L : Lw X.K X.mg) : RcG X 3 (DList (DIns a_Table (TblEq X.prog X.w X.K))) := by
  obtain ⟨fd, F, hb⟩ := okf_Table_eq (P := X.prog) (w := X.w) (base := X.base) L
  exact rcG_list mon_tbl (eqG_ins F L.m_Table_eq.at_ L.m_Table_eq.fn hb (E := E0) pass0)
section
variable {P : Program} {w : World} {K : PySem.W.Frag} {mg : Str → Option Value} {base : Heap}
def SrvEq (P : Program) (w : World) (K : PySem.W.Frag) (a b : Addr) (H : Hp) : Prop := ∃ (dx s t dx' s' t' : Addr) (hs : Hs), H a = some (.ins a_Server dx [("starts", .ref s), ("tables", .ref t)]) ∧ H b = some (.ins a_Server dx' [("starts", .ref s'), ("tables", .ref t')]) ∧
  H s = some (.lst (hs.map fun h => V.int ((h : Nat × List Ru).1 : Int))) ∧ H s' = some (.lst (hs.map fun h => V.int (h.1 : Int))) ∧ DList (DIns a_Table (TblEq P w K)) (.ref t) (.ref t') H
abbrev N_Server_eq : List Str := ["self", "other"]
theorem sc_Server_eq : FnScope N_Server_eq ["self", "other"] (defScope s_Server_eq) := ⟨rfl, rfl, rfl, by decide +kernel, rfl, by decide +kernel, by decide +kernel⟩
theorem st_Server_eq (x0 x1 : V) : L2.start N_Server_eq [x0, x1] = [some x0, some x1] := rfl
theorem okf_Server_eq (L : Lw K mg) : ∃ fd, FnOk P w K mg base CX0 4 a_Server_eq fd ["self", "other"] (spEq (SrvEq P w K)) ∧ Binds K fd ["self", "other"] [] := by
  obtain ⟨fd, F⟩ := L.Server_eq
  refine ⟨fd, fn_okD F sc_Server_eq (fun vs H Q E h => by obtain ⟨a, b, rfl, _⟩ := h; rfl) fun cdv A outer s H vs Q E hr h => ?_, F.bindsN fun _ _ _ _ _ _ us hl => match us, hl with | [_, _], _ => rfl⟩
  obtain ⟨a, b, rfl, ⟨dx, s, t, dx', s', t', hs, ea, eb, es, es', dl⟩, k⟩ := h
  have nd := sc_Server_eq.nd
  refine ⟨_, (pss_one (ps_ret (pe_and (pe_callB call_isi (by rfl) L.z_isinstance (by decide +kernel) (pa_cons (pv 1) (pa_cons (pe_glob (v := .ref a_Server) (by rfl) L.g_Server rfl) pa_nil))) (pe_and (pe_cmpR (op_eqD hr.units) (pe_fld (pv 0) rfl) (pe_fld (pv 1) rfl) (nomark _)) (pe_one (pe_cmpR (op_eqG (rcG_tables L) (hr.mono (by decide))) (pe_fld (pv 0) rfl) (pe_fld (pv 1) rfl) (nomark _))))))), ?_⟩
  simp only [tSl, tPart, tNoPart, tCKw, tVals, gStar, gCons, gNil, StX.tStar, tFmtS, tFmtI, tM0, tJs, tM1, rNewStrs, tMatch, setAll, lit_to, lit_page, lit_section, lit_gone, lit_exact, lit_open, tSeq, tAsg, tIfS, tRet, tRetN, tDrop, tNext, tNever, tOr, tAnd, tNot, tB, tTest, tCB, tCons, tVar, tC, tNil, tOp, tUn, tIf, tAndV, tOrV, tNotV, tChain, tTup, tLst, tCallR, tMethN, tMakeN, tPropN, tYes, gName, cx_K, cx_P, cx_w, rI0, rI, rEq, rNe, List.getElem?_cons_zero, List.getElem?_cons_succ, List.set_cons_zero, List.set_cons_succ, Option.some.injEq, exists_eq_left', exists_eq_left, V.bl.injEq, V.int.injEq, V.str.injEq, V.ref.injEq, List.cons.injEq, and_true, true_and, exists_and_left, and_assoc, List.append_nil, st_Server_eq]
  refine isi_own L.i_Server L.c_Server eb ⟨true, rfl, iteT ?_⟩
  have sh := shaped_ints hs
  refine fld_at rfl ea L.c_Server L.n_Server_starts rfl (fld_at rfl eb L.c_Server L.n_Server_starts rfl ⟨_, _, .lst (SqL.of es) (dpa_ints hs), .lst (SqL.of es') (dpa_ints hs), sh, sh, ?_⟩)
  rw [SeqAt.eqv_refl _ (SeqAt.canLay_of_shaped sh)]
  refine ⟨true, rfl, iteT ?_⟩
  exact fld_at rfl ea L.c_Server L.n_Server_tables rfl (fld_at rfl eb L.c_Server L.n_Server_tables rfl ⟨dl, k⟩)
/-- a server with its tables' rules in another order is equal -/
theorem srvEq_of {H : Hp} {a b : Addr} {hs hs' : Hs} (h : SvAt P w K H a hs) (h' : SvAt P w K H b hs') (pm : Paired (fun (x y : Nat × List Ru) => x.1 = y.1 ∧ y.2.Perm x.2) hs hs') (ok : ∀ x ∈ hs, OkRs x.2) : SrvEq P w K a b H := by
  obtain ⟨dx, s, t, ts, h1, h2, h3, h4⟩ := h
  obtain ⟨dx', s', t', ts', g1, g2, g3, g4⟩ := h'
  have ed : hs'.map (fun h => V.int (h.1 : Int)) = hs.map (fun h => V.int (h.1 : Int)) := by
    clear h2 g2 h4 g4 ok
    induction pm with
    | nil => rfl
    | cons q _ ih => rw [List.map_cons, List.map_cons, ih, q.1]
  refine ⟨dx, s, t, dx', s', t', hs, h1, g1, h2, ed ▸ g2, t, t', ts, ts', rfl, rfl, h3, g3, ?_, fun i x y hx hy => ?_⟩
  · rw [Paired.length h4, Paired.length g4, Paired.length pm]
  · obtain ⟨z, hz, q⟩ := paired_get h4 hx
    obtain ⟨z', hz', q'⟩ := paired_get g4 hy
    obtain ⟨z2, hz2, p1, p2⟩ := paired_get pm hz
    rw [hz'] at hz2
    cases hz2
    obtain ⟨u, v, rfl, rfl, e⟩ := tblEq_of q q' p2 (ok z (List.mem_of_getElem? hz))
    obtain ⟨e1, e2, e3, e4, m1, m2, m3⟩ := id e
    exact ⟨u, v, _, _, _, _, rfl, rfl, m1, m2, e⟩
end
end K88
set_option maxHeartbeats 4000000
/-! Sites: what happened, in plain Lean; how it lies. -/
namespace K88
open PySem PySem.Spec PyProof.Rows L2
inductive Vb where
  | put | move | bring
  deriving DecidableEq
/-- what happened -/
inductive Ev where
  | pl (k : Vb) (d : Nat) (s : Bool) (n : Wd) (p : Ad)
  | merge (d : Nat) (s : Bool) (n o : Wd)
  | take (d : Nat) (s : Bool) (n : Wd)
def sPut : Wd := [112, 117, 116]
def sMove : Wd := [109, 111, 118, 101]
def sBring : Wd := [98, 114, 105, 110, 103]
def sMerge : Wd := [109, 101, 114, 103, 101]
def sTake : Wd := [116, 97, 107, 101]
def sAt : Wd := [97, 116]
def sInto : Wd := [105, 110, 116, 111]
def Vb.w : Vb → Wd
  | .put => sPut
  | .move => sMove
  | .bring => sBring
/-- false: a page; true: a section -/
def sortN (s : Bool) : Wd := if s then sSection else sPage
def Ev.day : Ev → Nat
  | .pl _ d _ _ _ => d
  | .merge d _ _ _ => d
  | .take d _ _ => d
def EvAt (K : PySem.W.Frag) (H : Hp) (v : V) : Ev → Prop
  | .pl k d s n p => ∃ t u, v = .ref t ∧ SqT K H t [.int (d : Int), vW k.w, vW (sortN s), vW n, u] ∧ AdAt K H u p
  | .merge d s n o => ∃ t, v = .ref t ∧ SqT K H t [.int (d : Int), vW sMerge, vW (sortN s), vW n, vW o]
  | .take d s n => ∃ t, v = .ref t ∧ SqT K H t [.int (d : Int), vW sTake, vW (sortN s), vW n]
theorem EvAt.kt {K : PySem.W.Frag} {H H' : Hp} {v : V} {e : Ev} (h : EvAt K H v e) (k : KeepT H H') : EvAt K H' v e := by
  cases e with
  | pl => obtain ⟨t, u, rfl, q, z⟩ := h; exact ⟨t, u, rfl, sqt_kt k q, z.kt k⟩
  | merge => obtain ⟨t, rfl, q⟩ := h; exact ⟨t, rfl, sqt_kt k q⟩
  | take => obtain ⟨t, rfl, q⟩ := h; exact ⟨t, rfl, sqt_kt k q⟩
def OkEv : Ev → Prop
  | .pl _ d _ n p => d ≤ 1000000 ∧ OkW n ∧ OkA p
  | .merge d _ n o => d ≤ 1000000 ∧ OkW n ∧ OkW o
  | .take d _ n => d ≤ 1000000 ∧ OkW n
/-- a claim -/
structure Cl where
  kind : Bool
  spot : Ad
  name : Wd
  made : Nat
  ended : Option Nat
structure SS where
  ev : List Ev
  so : List (Wd × Bool)
  sp : List (Wd × Ad)
  ot : List (Wd × Option Wd)
  he : List Cl
section
variable {α : Type}
def aget (l : List (Wd × α)) (n : Wd) : Option α := (l.find? fun x => decide (x.1 = n)).map (·.2)
def aput (l : List (Wd × α)) (n : Wd) (v : α) : List (Wd × α) := if (l.any fun x => decide (x.1 = n)) = true then l.map (fun x => if x.1 = n then (x.1, v) else x) else l ++ [(n, v)]
def adel (l : List (Wd × α)) (n : Wd) : List (Wd × α) := l.filter fun x => decide (x.1 ≠ n)
end
def SS.nil : SS := ⟨[], [], [], [], []⟩
def SS.note (st : SS) (e : Ev) : SS := { st with ev := st.ev ++ [e] }
def Cl.endAt (n : Wd) (t : Nat) (c : Cl) : Cl := if c.name = n ∧ c.ended = none then { c with ended := some t } else c
def SS.endC (st : SS) (n : Wd) : SS := { st with sp := adel st.sp n, he := st.he.map (Cl.endAt n st.ev.length) }
def SS.stand (st : SS) (s : Bool) (n : Wd) (p : Ad) : SS := { st with sp := aput st.sp n p, he := st.he ++ [⟨s, p, n, st.ev.length, none⟩] }
/-- what an event does -/
def SS.doEv (st : SS) : Ev → SS
  | .pl .put d s n p => ({ st.note (.pl .put d s n p) with so := aput st.so n s } : SS).stand s n p
  | .pl .move d s n p => ((st.note (.pl .move d s n p)).endC n).stand s n p
  | .pl .bring d s n p => ({ st.note (.pl .bring d s n p) with ot := adel st.ot n } : SS).stand s n p
  | .merge d s n o => let u := (st.note (.merge d s n o)).endC n; { u with ot := aput st.ot n (some o) }
  | .take d s n => let u := (st.note (.take d s n)).endC n; { u with ot := aput st.ot n none }
/-! ### how it lies -/
def fK : Str := "kind"
def fSp : Str := "spot"
def fN : Str := "name"
def fM : Str := "made"
def fE : Str := "ended"
def oN : Option Nat → V
  | none => .non
  | some n => .int (n : Int)
def oW : Option Wd → V
  | none => .non
  | some w => vW w
def ClAt (K : PySem.W.Frag) (H : Hp) (b : Addr) (c : Cl) : Prop := ∃ dx u, H b = some (.ins a_Claim dx [("kind", vW (sortN c.kind)), ("spot", u), ("name", vW c.name), ("made", .int (c.made : Int)), ("ended", oN c.ended)]) ∧ AdAt K H u c.spot
def kW (w : Wd) : Key := .inr (T w)
theorem kW_inj {a b : Wd} (h : kW a = kW b) : a = b := T_inj (Sum.inr.inj h)
theorem kV_W (w : Wd) : kV (kW w) = vW w := rfl
def soK (l : List (Wd × Bool)) : List (Key × V) := l.map fun x => (kW x.1, vW (sortN x.2))
def otK (l : List (Wd × Option Wd)) : List (Key × V) := l.map fun x => (kW x.1, oW x.2)
def SpAt (K : PySem.W.Frag) (H : Hp) (ks : List (Key × V)) (l : List (Wd × Ad)) : Prop := Paired (fun (kv : Key × V) (x : Wd × Ad) => kv.1 = kW x.1 ∧ AdAt K H kv.2 x.2) ks l
/-- the parts' places -/
structure Pt where
  h : Addr
  so : Addr
  sp : Addr
  ot : Addr
  he : Addr
  cs : List Addr
def Pt.all (p : Pt) : List Addr := p.h :: p.so :: p.sp :: p.ot :: p.he :: p.cs
structure SiteAt (K : PySem.W.Frag) (H : Hp) (a : Addr) (st : SS) (p : Pt) : Prop where
  ins : ∃ dx, H a = some (.ins a_Site dx [("happened", .ref p.h), ("sorts", .ref p.so), ("spots", .ref p.sp), ("others", .ref p.ot), ("held", .ref p.he)])
  h : ∃ vs, H p.h = some (.lst vs) ∧ Paired (EvAt K H) vs st.ev
  so : H p.so = some (.dK (soK st.so))
  sp : ∃ ks, H p.sp = some (.dK ks) ∧ SpAt K H ks st.sp
  ot : H p.ot = some (.dK (otK st.ot))
  he : H p.he = some (.lst (p.cs.map V.ref))
  cs : Paired (ClAt K H) p.cs st.he
  n1 : p.h ≠ p.he
  n2 : p.so ≠ p.sp
  n3 : p.so ≠ p.ot
  n4 : p.sp ≠ p.ot
  nd : p.cs.Nodup
/-- all but the parts is kept; what is new among them was nothing -/
def KeepF (p : Pt) (H H' : Hp) : Prop := ∀ b o, b ∉ p.all → H b = some o → H' b = some o
def SubF (p p' : Pt) (H : Hp) : Prop := ∀ b ∈ p'.all, b ∈ p.all ∨ H b = none
theorem KeepF.refl (p : Pt) (H : Hp) : KeepF p H H := fun _ _ _ e => e
theorem SubF.refl (p : Pt) (H : Hp) : SubF p p H := fun _ h => .inl h
theorem KeepF.trans {p p' : Pt} {H H1 H2 : Hp} (a : KeepF p H H1) (s : SubF p p' H) (b : KeepF p' H1 H2) : KeepF p H H2 := fun c o n e => b c o (fun z => (s c z).elim n fun q => by rw [q] at e; cases e) (a c o n e)
theorem SubF.trans {p p' p'' : Pt} {H H1 : Hp} (s : SubF p p' H) (k : KeepF p H H1) (t : SubF p' p'' H1) : SubF p p'' H := fun c h => by
  rcases t c h with h | h
  · exact s c h
  · by_cases q : c ∈ p.all
    · exact .inl q
    · refine .inr (Option.eq_none_iff_forall_ne_some.mpr fun o e => ?_)
      rw [k c o q e] at h
      cases h
theorem ClAt.mono {K : PySem.W.Frag} {H H' : Hp} {b : Addr} {c : Cl} (h : ClAt K H b c) (e : Same H H') : ClAt K H' b c := by
  obtain ⟨dx, u, q, z⟩ := h
  exact ⟨dx, u, e _ _ q, z.mono e⟩
theorem SpAt.kt {K : PySem.W.Frag} {H H' : Hp} {ks : List (Key × V)} {l : List (Wd × Ad)} (h : SpAt K H ks l) (e : KeepT H H') : SpAt K H' ks l := paired_imp h fun _ _ q => ⟨q.1, q.2.kt e⟩
theorem SiteAt.mono {K : PySem.W.Frag} {H H' : Hp} {a : Addr} {st : SS} {p : Pt} (s : SiteAt K H a st p) (e : Same H H') : SiteAt K H' a st p where
  ins := s.ins.imp fun _ q => e _ _ q
  h := s.h.imp fun _ q => ⟨e _ _ q.1, paired_imp q.2 fun _ _ z => z.kt e.kt⟩
  so := e _ _ s.so
  sp := s.sp.imp fun _ q => ⟨e _ _ q.1, q.2.kt e.kt⟩
  ot := e _ _ s.ot
  he := e _ _ s.he
  cs := paired_imp s.cs fun _ _ z => z.mono e
  n1 := s.n1
  n2 := s.n2
  n3 := s.n3
  n4 := s.n4
  nd := s.nd
/-! ### as data -/
def dEv : Ev → PyData
  | .pl k d s n p => .tuple [.int (d : Int), dW k.w, dW (sortN s), dW n, dA p]
  | .merge d s n o => .tuple [.int (d : Int), dW sMerge, dW (sortN s), dW n, dW o]
  | .take d s n => .tuple [.int (d : Int), dW sTake, dW (sortN s), dW n]
theorem EvAt.dp {K : PySem.W.Frag} {H : Hp} {v : V} {e : Ev} (h : EvAt K H v e) : Dp K H v (dEv e) := by
  cases e with
  | pl => obtain ⟨t, u, rfl, q, z⟩ := h; exact .tup q (.cons (.int _) (.cons (.str _) (.cons (.str _) (.cons (.str _) (.cons z.dp .nil)))))
  | merge => obtain ⟨t, rfl, q⟩ := h; exact .tup q (.cons (.int _) (.cons (.str _) (.cons (.str _) (.cons (.str _) (.cons (.str _) .nil)))))
  | take => obtain ⟨t, rfl, q⟩ := h; exact .tup q (.cons (.int _) (.cons (.str _) (.cons (.str _) (.cons (.str _) .nil))))
theorem evs_dp {K : PySem.W.Frag} {H : Hp} {vs : List V} {es : List Ev} (h : Paired (EvAt K H) vs es) : DpAll K H vs (es.map dEv) := by
  induction h with
  | nil => exact .nil
  | cons h _ ih => exact .cons h.dp ih
theorem lay_N (s : Bool) : (dW (sortN s)).canLay0 = true := by cases s <;> exact lay_lit _ rfl
theorem lay_Ev {e : Ev} (ok : OkEv e) : (dEv e).canLay0 = true := by
  cases e with
  | pl k d s n p =>
    show (true && ((dW k.w).canLay0 && ((dW (sortN s)).canLay0 && ((dW n).canLay0 && ((dA p).canLay0 && true))))) = true
    rw [show (dW k.w).canLay0 = true by cases k <;> exact lay_lit _ rfl, lay_N, ok.2.1.lay, lay_A ok.2.2.ok]
    rfl
  | merge d s n o =>
    show (true && ((dW sMerge).canLay0 && ((dW (sortN s)).canLay0 && ((dW n).canLay0 && ((dW o).canLay0 && true))))) = true
    rw [lay_lit sMerge rfl, lay_N, ok.2.1.lay, ok.2.2.lay]
    rfl
  | take d s n =>
    show (true && ((dW sTake).canLay0 && ((dW (sortN s)).canLay0 && ((dW n).canLay0 && true)))) = true
    rw [lay_lit sTake rfl, lay_N, ok.2.lay]
    rfl
theorem depth_Ev (e : Ev) : (dEv e).depth ≤ 2 := by
  cases e with
  | pl k d s n p =>
    show max 0 (max 0 (max 0 (max 0 (max (dA p).depth 0)))) + 1 ≤ 2
    rw [depth_A]
    decide
  | merge => exact Nat.le_of_ble_eq_true rfl
  | take => exact Nat.le_of_ble_eq_true rfl
theorem shaped_evs {es : List Ev} (ok : ∀ e ∈ es, OkEv e) : SeqAt.shaped (.list (es.map dEv)) = true := by
  have h1 : ∀ es : List Ev, (∀ e ∈ es, OkEv e) → PyData.canLayAll0 (es.map dEv) = true := fun es ok => by
    induction es with
    | nil => rfl
    | cons e es ih =>
      show ((dEv e).canLay0 && PyData.canLayAll0 (es.map dEv)) = true
      rw [lay_Ev (ok e (List.mem_cons_self ..)), ih fun x hx => ok x (List.mem_cons_of_mem _ hx)]
      rfl
  have h2 : ∀ es : List Ev, PyData.depthAll (es.map dEv) ≤ 2 := fun es => by
    induction es with
    | nil => exact Nat.zero_le _
    | cons e es ih =>
      show max (dEv e).depth (PyData.depthAll (es.map dEv)) ≤ 2
      exact Nat.max_le.mpr ⟨depth_Ev e, ih⟩
  show (PyData.canLayAll0 (es.map dEv) && decide (PyData.depthAll (es.map dEv) + 1 ≤ 64)) = true
  rw [h1 es ok, decide_eq_true (by have := h2 es; omega)]
  rfl
/-! ### looked up -/
theorem valV_map {α : Type} (f : α → V) (n : Wd) : ∀ l : List (Wd × α), valV (l.map fun x => (kW x.1, f x.2)) (kW n) = (aget l n).map f
  | [] => rfl
  | x :: l => by
    unfold aget
    rw [List.map_cons, List.find?_cons]
    by_cases h : x.1 = n
    · rw [valV_pos (by rw [h]), decide_eq_true h] <;> rfl
    · rw [valV_neg (fun e => h (kW_inj e)), decide_eq_false h, valV_map f n l] <;> rfl
theorem valV_so (n : Wd) (l : List (Wd × Bool)) : valV (soK l) (kW n) = (aget l n).map fun s => vW (sortN s) := valV_map (fun s => vW (sortN s)) n l
theorem valV_sp {K : PySem.W.Frag} {H : Hp} (n : Wd) {ks : List (Key × V)} {l : List (Wd × Ad)} (h : SpAt K H ks l) : (valV ks (kW n)).isSome = (aget l n).isSome := by
  induction h with
  | nil => rfl
  | @cons kv x ks l h t ih =>
    unfold aget at ih ⊢
    rw [List.find?_cons]
    by_cases q : x.1 = n
    · rw [valV_pos (h.1.trans (by rw [q])), decide_eq_true q]
      rfl
    · rw [valV_neg (fun e => q (kW_inj (h.1.symm.trans e))), decide_eq_false q]
      exact ih
theorem dget_so {H : Hp} {a : Addr} {l : List (Wd × Bool)} {n : Wd} {s : Bool} (e : H a = some (.dK (soK l))) (g : aget l n = some s) : DGet H a (vW n) (some (vW (sortN s))) := by
  have h := DGet.k (k := kW n) e
  rw [valV_so, g] at h
  exact h
theorem sortN_ne {s s' : Bool} (h : s' ≠ s) : sortN s' ≠ sortN s := by
  cases s <;> cases s' <;> first | (exact absurd rfl h) | decide
/-! ### one part changes -/
section
variable {K : PySem.W.Frag} {H H' : Hp} {a : Addr} {st : SS} {p : Pt}
theorem SiteAt.cl (S : SiteAt K H a st p) {c : Addr} (hc : c ∈ p.cs) : ∃ dx fs, H c = some (.ins a_Claim dx fs) := by
  obtain ⟨x, _, dx, u, e, _⟩ := paired_mem S.cs c hc
  exact ⟨dx, _, e⟩
theorem cls_ne : a_Claim ≠ a_Site := by decide
theorem cl_kt {c : Addr} {dx : Addr} {fs : List (Str × V)} (e : H c = some (.ins a_Claim dx fs)) (s : SameB c H H') : KeepT H H' := s.kt e trivial
theorem ClAt.sb {x c : Addr} {cl : Cl} (h : ClAt K H c cl) (s : SameB x H H') (n : c ≠ x) (k : KeepT H H') : ClAt K H' c cl := by
  obtain ⟨dx, u, e, z⟩ := h
  exact ⟨dx, u, s _ _ n e, z.kt k⟩
theorem cls_sb {x : Addr} : ∀ {cs : List Addr} {cl : List Cl}, Paired (ClAt K H) cs cl → SameB x H H' → (∀ c ∈ cs, c ≠ x) → KeepT H H' → Paired (ClAt K H') cs cl
  | _, _, .nil, _, _, _ => .nil
  | _, _, .cons h t, s, n, k => .cons (h.sb s (n _ (List.mem_cons_self ..)) k) (cls_sb t s (fun c hc => n c (List.mem_cons_of_mem _ hc)) k)
theorem SiteAt.setH (S : SiteAt K H a st p) {vs : List V} {ev : List Ev} (s : SameB p.h H H') (e : H' p.h = some (.lst vs)) (hv : Paired (EvAt K H') vs ev) : SiteAt K H' a { st with ev := ev } p := by
  obtain ⟨dx, ei⟩ := S.ins
  obtain ⟨ws, eh, hh⟩ := S.h
  obtain ⟨ks, ek, hk⟩ := S.sp
  have kt := s.kt eh trivial
  refine ⟨⟨dx, s _ _ (ne_of ei eh fun z => nomatch z) ei⟩, ⟨vs, e, hv⟩, s _ _ (ne_of S.so eh fun z => nomatch z) S.so, ⟨ks, s _ _ (ne_of ek eh fun z => nomatch z) ek, hk.kt kt⟩, s _ _ (ne_of S.ot eh fun z => nomatch z) S.ot, s _ _ S.n1.symm S.he, ?_, S.n1, S.n2, S.n3, S.n4, S.nd⟩
  exact cls_sb S.cs s (fun c hc => let ⟨_, _, q⟩ := S.cl hc; ne_of q eh fun z => nomatch z) kt
theorem SiteAt.setSo (S : SiteAt K H a st p) {l : List (Wd × Bool)} (s : SameB p.so H H') (e : H' p.so = some (.dK (soK l))) : SiteAt K H' a { st with so := l } p := by
  obtain ⟨dx, ei⟩ := S.ins
  obtain ⟨ws, eh, hh⟩ := S.h
  obtain ⟨ks, ek, hk⟩ := S.sp
  have kt := s.kt S.so trivial
  refine ⟨⟨dx, s _ _ (ne_of ei S.so fun z => nomatch z) ei⟩, ⟨ws, s _ _ (ne_of eh S.so fun z => nomatch z) eh, paired_imp hh fun _ _ q => q.kt kt⟩, e, ⟨ks, s _ _ S.n2.symm ek, hk.kt kt⟩, s _ _ S.n3.symm S.ot, s _ _ (ne_of S.he S.so fun z => nomatch z) S.he, ?_, S.n1, S.n2, S.n3, S.n4, S.nd⟩
  exact cls_sb S.cs s (fun c hc => let ⟨_, _, q⟩ := S.cl hc; ne_of q S.so fun z => nomatch z) kt
theorem SiteAt.setSp (S : SiteAt K H a st p) {ks' : List (Key × V)} {l : List (Wd × Ad)} (s : SameB p.sp H H') (e : H' p.sp = some (.dK ks')) (h' : SpAt K H' ks' l) : SiteAt K H' a { st with sp := l } p := by
  obtain ⟨dx, ei⟩ := S.ins
  obtain ⟨ws, eh, hh⟩ := S.h
  obtain ⟨ks, ek, hk⟩ := S.sp
  have kt := s.kt ek trivial
  refine ⟨⟨dx, s _ _ (ne_of ei ek fun z => nomatch z) ei⟩, ⟨ws, s _ _ (ne_of eh ek fun z => nomatch z) eh, paired_imp hh fun _ _ q => q.kt kt⟩, s _ _ S.n2 S.so, ⟨ks', e, h'⟩, s _ _ S.n4.symm S.ot, s _ _ (ne_of S.he ek fun z => nomatch z) S.he, ?_, S.n1, S.n2, S.n3, S.n4, S.nd⟩
  exact cls_sb S.cs s (fun c hc => let ⟨_, _, q⟩ := S.cl hc; ne_of q ek fun z => nomatch z) kt
theorem SiteAt.setOt (S : SiteAt K H a st p) {l : List (Wd × Option Wd)} (s : SameB p.ot H H') (e : H' p.ot = some (.dK (otK l))) : SiteAt K H' a { st with ot := l } p := by
  obtain ⟨dx, ei⟩ := S.ins
  obtain ⟨ws, eh, hh⟩ := S.h
  obtain ⟨ks, ek, hk⟩ := S.sp
  have kt := s.kt S.ot trivial
  refine ⟨⟨dx, s _ _ (ne_of ei S.ot fun z => nomatch z) ei⟩, ⟨ws, s _ _ (ne_of eh S.ot fun z => nomatch z) eh, paired_imp hh fun _ _ q => q.kt kt⟩, s _ _ S.n3 S.so, ⟨ks, s _ _ S.n4 ek, hk.kt kt⟩, e, s _ _ (ne_of S.he S.ot fun z => nomatch z) S.he, ?_, S.n1, S.n2, S.n3, S.n4, S.nd⟩
  exact cls_sb S.cs s (fun c hc => let ⟨_, _, q⟩ := S.cl hc; ne_of q S.ot fun z => nomatch z) kt
/-- a claim is added -/
theorem SiteAt.addCl (S : SiteAt K H a st p) {c : Addr} {cl : Cl} (s : SameB p.he H H') (e : H' p.he = some (.lst ((p.cs ++ [c]).map V.ref))) (h : ClAt K H' c cl) (n : c ∉ p.cs) : SiteAt K H' a { st with he := st.he ++ [cl] } { p with cs := p.cs ++ [c] } := by
  obtain ⟨dx, ei⟩ := S.ins
  obtain ⟨ws, eh, hh⟩ := S.h
  obtain ⟨ks, ek, hk⟩ := S.sp
  have kt := s.kt S.he trivial
  refine ⟨⟨dx, s _ _ (ne_of ei S.he fun z => nomatch z) ei⟩, ⟨ws, s _ _ S.n1 eh, paired_imp hh fun _ _ q => q.kt kt⟩, s _ _ (ne_of S.so S.he fun z => nomatch z) S.so, ⟨ks, s _ _ (ne_of ek S.he fun z => nomatch z) ek, hk.kt kt⟩, s _ _ (ne_of S.ot S.he fun z => nomatch z) S.ot, e, ?_, S.n1, S.n2, S.n3, S.n4, ?_⟩
  · exact paired_snoc h (cls_sb S.cs s (fun c hc => let ⟨_, _, q⟩ := S.cl hc; ne_of q S.he fun z => nomatch z) kt)
  · exact List.nodup_append.mpr ⟨S.nd, List.nodup_cons.mpr ⟨List.not_mem_nil, .nil⟩, fun x hx y hy z => n (by rw [List.mem_singleton] at hy; rw [← hy, ← z]; exact hx)⟩
theorem paired_set {α β : Type} {F G : α → β → Prop} : ∀ {l : List α} {m : List β} {i : Nat} {x : α} {y : β}, Paired F l m → l[i]? = some x → l.Nodup → (∀ z w, z ≠ x → F z w → G z w) → G x y → Paired G l (m.set i y)
  | _, _, _, _, _, .nil, h, _, _, _ => by simp at h
  | _, _, 0, x, y, .cons (a := a) (b := b) r t, h, nd, f, g => by
    have e : a = x := by simpa using h
    subst e
    have na := (List.nodup_cons.mp nd).1
    refine .cons g ?_
    clear r h g
    have nd2 := (List.nodup_cons.mp nd).2
    clear nd nd2
    induction t with
    | nil => exact .nil
    | @cons c d l m q t ih => exact .cons (f _ _ (fun z => na (by rw [z]; exact List.mem_cons_self ..)) q) (ih fun z => na (List.mem_cons_of_mem _ z))
  | _, _, i + 1, x, y, .cons (a := a) (b := b) r t, h, nd, f, g => by
    rw [List.getElem?_cons_succ] at h
    have h2 := h
    have na := (List.nodup_cons.mp nd).1
    exact .cons (f _ _ (fun z => na (by rw [z]; exact List.mem_of_getElem? h2)) r) (paired_set t h2 (List.nodup_cons.mp nd).2 f g)
/-- a claim is changed -/
theorem SiteAt.setCl (S : SiteAt K H a st p) {c : Addr} {cl : Cl} {i : Nat} (hc : p.cs[i]? = some c) (s : SameB c H H') (h : ClAt K H' c cl) : SiteAt K H' a { st with he := st.he.set i cl } p := by
  obtain ⟨dx, ei⟩ := S.ins
  obtain ⟨ws, eh, hh⟩ := S.h
  obtain ⟨ks, ek, hk⟩ := S.sp
  obtain ⟨dc, fs, ec⟩ := S.cl (List.mem_of_getElem? hc)
  have kt := s.kt ec trivial
  refine ⟨⟨dx, s _ _ (ne_of ei ec fun z => by injection z with z; exact absurd z (by decide)) ei⟩, ⟨ws, s _ _ (ne_of eh ec fun z => nomatch z) eh, paired_imp hh fun _ _ q => q.kt kt⟩, s _ _ (ne_of S.so ec fun z => nomatch z) S.so, ⟨ks, s _ _ (ne_of ek ec fun z => nomatch z) ek, hk.kt kt⟩, s _ _ (ne_of S.ot ec fun z => nomatch z) S.ot, s _ _ (ne_of S.he ec fun z => nomatch z) S.he, ?_, S.n1, S.n2, S.n3, S.n4, S.nd⟩
  exact paired_set S.cs hc S.nd (fun z w n q => q.sb s n kt) h
theorem KeepF.of (m : x ∈ p.all) (s : SameB x H H') : KeepF p H H' := fun b o n e => s b o (fun z => n (z ▸ m)) e
end
/-! ### dicts by names -/
theorem any_map {α β : Type} (f : α → V) (n : Wd) : ∀ l : List (Wd × α), ((l.map fun x => (kW x.1, f x.2)).any fun kv => decide (kv.1 = kW n)) = l.any fun x => decide (x.1 = n)
  | [] => rfl
  | x :: l => by
    rw [List.map_cons, List.any_cons, List.any_cons, any_map (β := β) f n l]
    by_cases h : x.1 = n
    · rw [decide_eq_true h, decide_eq_true (show kW x.1 = kW n by rw [h])]
    · rw [decide_eq_false h, decide_eq_false (fun e => h (kW_inj e))]
theorem putK_map {α : Type} (f : α → V) (n : Wd) (v : α) (l : List (Wd × α)) : putK (l.map fun x => (kW x.1, f x.2)) (kW n) (f v) = (aput l n v).map fun x => (kW x.1, f x.2) := by
  unfold putK aput
  rw [any_map (β := α)]
  split
  · rw [List.map_map, List.map_map]
    refine List.map_congr_left fun x _ => ?_
    show (if kW x.1 = kW n then (kW x.1, f v) else (kW x.1, f x.2)) = _
    by_cases h : x.1 = n
    · rw [if_pos (by rw [h])]
      show _ = (fun y : Wd × α => (kW y.1, f y.2)) (if x.1 = n then (x.1, v) else x)
      rw [if_pos h]
    · rw [if_neg (fun e => h (kW_inj e))]
      show _ = (fun y : Wd × α => (kW y.1, f y.2)) (if x.1 = n then (x.1, v) else x)
      rw [if_neg h]
  · rw [List.map_append]
    rfl
theorem dropK_map {α : Type} (f : α → V) (n : Wd) (l : List (Wd × α)) : dropK (l.map fun x => (kW x.1, f x.2)) (kW n) = (adel l n).map fun x => (kW x.1, f x.2) := by
  unfold dropK adel
  rw [List.filter_map]
  refine congrArg _ (List.filter_congr fun x _ => ?_)
  show decide (kW x.1 ≠ kW n) = decide (x.1 ≠ n)
  by_cases h : x.1 = n
  · rw [decide_eq_false (fun z => z (by rw [h])), decide_eq_false (fun z => z h)]
  · rw [decide_eq_true (show kW x.1 ≠ kW n from fun e => h (kW_inj e)), decide_eq_true (show x.1 ≠ n from h)]
theorem soK_put (l : List (Wd × Bool)) (n : Wd) (s : Bool) : putK (soK l) (kW n) (vW (sortN s)) = soK (aput l n s) := putK_map (fun s => vW (sortN s)) n s l
theorem otK_put (l : List (Wd × Option Wd)) (n : Wd) (o : Option Wd) : putK (otK l) (kW n) (oW o) = otK (aput l n o) := putK_map oW n o l
theorem otK_del (l : List (Wd × Option Wd)) (n : Wd) : dropK (otK l) (kW n) = otK (adel l n) := dropK_map oW n l
theorem spAt_any {K : PySem.W.Frag} {H : Hp} (n : Wd) {ks : List (Key × V)} {l : List (Wd × Ad)} (h : SpAt K H ks l) : (ks.any fun kv => decide (kv.1 = kW n)) = l.any fun x => decide (x.1 = n) := by
  induction h with
  | nil => rfl
  | @cons kv x ks l h t ih =>
    rw [List.any_cons, List.any_cons, ih]
    by_cases q : x.1 = n
    · rw [decide_eq_true q, decide_eq_true (show kv.1 = kW n by rw [h.1, q])]
    · rw [decide_eq_false q, decide_eq_false (fun e => q (kW_inj (h.1.symm.trans e)))]
theorem spAt_put {K : PySem.W.Frag} {H : Hp} {n : Wd} {q : Ad} {v : V} {ks : List (Key × V)} {l : List (Wd × Ad)} (h : SpAt K H ks l) (hv : AdAt K H v q) : SpAt K H (putK ks (kW n) v) (aput l n q) := by
  unfold putK aput
  rw [spAt_any n h]
  split
  · rename_i z
    clear z
    induction h with
    | nil => exact .nil
    | @cons kv x ks l h t ih =>
      rw [List.map_cons, List.map_cons]
      refine .cons ?_ ih
      by_cases z : x.1 = n
      · rw [if_pos z, if_pos (show kv.1 = kW n by rw [h.1, z])]
        exact ⟨h.1, hv⟩
      · rw [if_neg z, if_neg (fun e => z (kW_inj (h.1.symm.trans e)))]
        exact h
  · exact paired_snoc ⟨rfl, hv⟩ h
theorem spAt_del {K : PySem.W.Frag} {H : Hp} (n : Wd) {ks : List (Key × V)} {l : List (Wd × Ad)} (h : SpAt K H ks l) : SpAt K H (dropK ks (kW n)) (adel l n) := by
  unfold dropK adel
  induction h with
  | nil => exact .nil
  | @cons kv x ks l h t ih =>
    rw [List.filter_cons, List.filter_cons]
    by_cases z : x.1 = n
    · rw [if_neg (by rw [decide_eq_false (fun y => y (show kv.1 = kW n by rw [h.1, z]))]; decide), if_neg (by rw [decide_eq_false (fun y => y z)]; decide)]
      exact ih
    · rw [if_pos (decide_eq_true (show kv.1 ≠ kW n from fun e => z (kW_inj (h.1.symm.trans e)))), if_pos (decide_eq_true (show x.1 ≠ n from z))]
      exact .cons h ih
theorem set_step {α : Type} (f : α → α) : ∀ (l : List α) (i : Nat) (x : α), l[i]? = some x → ((l.take i).map f ++ l.drop i).set i (f x) = (l.take (i + 1)).map f ++ l.drop (i + 1)
  | [], _, _, h => by simp at h
  | y :: l, 0, x, h => by
    have e : y = x := by simpa using h
    subst e
    rfl
  | y :: l, i + 1, x, h => by
    have h2 : l[i]? = some x := by simpa using h
    show f y :: ((l.take i).map f ++ l.drop i).set i (f x) = f y :: ((l.take (i + 1)).map f ++ l.drop (i + 1))
    rw [set_step f l i x h2]
theorem get_step {α : Type} (f : α → α) (l : List α) (i : Nat) (h : i < l.length) : ((l.take i).map f ++ l.drop i)[i]? = l[i]? := by
  rw [List.getElem?_append_right (by rw [List.length_map, List.length_take]; omega), List.length_map, List.length_take, List.getElem?_drop]
  congr 1
  omega
/-! ### small laws -/
theorem lit_put : V.str (Str.ofString "put") = vW sPut := by decide +kernel
theorem lit_move : V.str (Str.ofString "move") = vW sMove := by decide +kernel
theorem lit_bring : V.str (Str.ofString "bring") = vW sBring := by decide +kernel
theorem lit_merge : V.str (Str.ofString "merge") = vW sMerge := by decide +kernel
theorem lit_take : V.str (Str.ofString "take") = vW sTake := by decide +kernel
theorem lit_at : V.str (Str.ofString "at") = vW sAt := by decide +kernel
theorem lit_into : V.str (Str.ofString "into") = vW sInto := by decide +kernel
theorem dget_so0 {H : Hp} {a : Addr} {l : List (Wd × Bool)} {n : Wd} (e : H a = some (.dK (soK l))) (g : aget l n = none) : DGet H a (vW n) none := by
  have h := DGet.k (k := kW n) e
  rw [valV_so, g] at h
  exact h
theorem dget_sp {K : PySem.W.Frag} {H : Hp} {a : Addr} {ks : List (Key × V)} {l : List (Wd × Ad)} {n : Wd} (e : H a = some (.dK ks)) (h : SpAt K H ks l) : ∃ o, DGet H a (vW n) o ∧ o.isSome = (aget l n).isSome := ⟨_, DGet.k (k := kW n) e, valV_sp n h⟩
theorem aget_put {α : Type} (n : Wd) (v : α) : ∀ l : List (Wd × α), aget (aput l n v) n = some v := by
  intro l
  unfold aput aget
  split
  · rename_i h
    induction l with
    | nil => cases h
    | cons x l ih =>
      rw [List.map_cons, List.find?_cons]
      by_cases q : x.1 = n
      · rw [if_pos q, decide_eq_true (show (x.1, v).1 = n from q)]
        rfl
      · rw [if_neg q, decide_eq_false q]
        refine ih ?_
        rw [List.any_cons, decide_eq_false q] at h
        exact h
  · rename_i h
    rw [List.find?_append]
    have hn : l.find? (fun x => decide (x.1 = n)) = none := List.find?_eq_none.mpr fun x hx z => h (List.any_eq_true.mpr ⟨x, hx, z⟩)
    rw [hn]
    show (Option.or none (List.find? _ [(n, v)])).map _ = _
    rw [List.find?_cons, decide_eq_true (show (n, v).1 = n from rfl)]
    rfl
theorem SiteAt.part {K : PySem.W.Frag} {H : Hp} {a : Addr} {st : SS} {p : Pt} (S : SiteAt K H a st p) : ∀ b ∈ p.all, ∃ u, H b = some u ∧ Mut (some u) := by
  intro b hb
  simp only [Pt.all, List.mem_cons] at hb
  rcases hb with rfl | rfl | rfl | rfl | rfl | hb
  · obtain ⟨_, q, _⟩ := S.h; exact ⟨_, q, trivial⟩
  · exact ⟨_, S.so, trivial⟩
  · obtain ⟨_, q, _⟩ := S.sp; exact ⟨_, q, trivial⟩
  · exact ⟨_, S.ot, trivial⟩
  · exact ⟨_, S.he, trivial⟩
  · obtain ⟨_, _, q⟩ := S.cl hb; exact ⟨_, q, trivial⟩
theorem SiteAt.kt {K : PySem.W.Frag} {H H' : Hp} {a : Addr} {st : SS} {p : Pt} (S : SiteAt K H a st p) (k : KeepF p H H') : KeepT H H' :=
  ⟨fun b xs e => k b _ (fun z => by obtain ⟨u, q, m⟩ := S.part b z; rw [e] at q; cases q; exact m) e, fun b o v e => k b _ (fun z => by obtain ⟨u, q, m⟩ := S.part b z; rw [e] at q; cases q; exact m) e⟩
theorem SiteAt.na {K : PySem.W.Frag} {H : Hp} {a : Addr} {st : SS} {p : Pt} (S : SiteAt K H a st p) : a ∉ p.all := fun hb => by
  obtain ⟨dx, e⟩ := S.ins
  simp only [Pt.all, List.mem_cons] at hb
  rcases hb with h | h | h | h | h | h
  · obtain ⟨_, q, _⟩ := S.h; rw [h, q] at e; cases e
  · rw [h, S.so] at e; cases e
  · obtain ⟨_, q, _⟩ := S.sp; rw [h, q] at e; cases e
  · rw [h, S.ot] at e; cases e
  · rw [h, S.he] at e; cases e
  · obtain ⟨_, _, q⟩ := S.cl h
    rw [q] at e
    injection e with e
    injection e with e
    exact absurd e (by decide)
end K88
set_option maxHeartbeats 4000000
/-! Claims; a site's small parts. -/
namespace K88
open PySem PySem.Spec PyProof.Rows L2
section
variable {P : Program} {w : World} {K : PySem.W.Frag} {mg : Str → Option Value} {base : Heap}
/-- a claim as data -/
def oD : Option Nat → PyData
  | none => .none
  | some n => .int (n : Int)
def dCl (c : Cl) : PyData := .tuple [dW (sortN c.kind), dA c.spot, dW c.name, .int (c.made : Int), oD c.ended]
theorem oN_dp {H : Hp} (o : Option Nat) : Dp K H (oN o) (oD o) := by
  cases o with
  | none => exact .non
  | some n => exact .int _
abbrev N_Claim_init : List Str := ["self", "kind", "spot", "name", "made"]
theorem sc_Claim_init : FnScope N_Claim_init ["self", "kind", "spot", "name", "made"] (defScope s_Claim_init) := ⟨rfl, rfl, rfl, by decide +kernel, rfl, by decide +kernel, by decide +kernel⟩
theorem st_Claim_init (x0 x1 x2 x3 x4 : V) : L2.start N_Claim_init [x0, x1, x2, x3, x4] = [some x0, some x1, some x2, some x3, some x4] := rfl
def p_Claim_init : V → V → V → V → V → Hp → VK → Prop := fun t kv sv nv mv H Q => ∃ a dx, t = .ref a ∧ H a = some (.ins a_Claim dx []) ∧ ∀ H', SameB a H H' → H' a = some (.ins a_Claim dx [("kind", kv), ("spot", sv), ("name", nv), ("made", mv), ("ended", .non)]) → Q .non H'
theorem ok_Claim_init (L : Lw K mg) : FN P w K mg base 1 a_Claim_init (sp5 p_Claim_init) := by
  obtain ⟨fd, F⟩ := L.Claim_init
  refine fn_any F sc_Claim_init (len5 rfl) (fun _ _ _ _ _ _ us hl => match us, hl with | [_, _, _, _, _], _ => rfl) fun cdv A outer s H vs Q E hr h => ?_
  obtain ⟨_, kv, sv, nv, mv, rfl, a, dx, rfl, ea, k⟩ := h
  have nd := sc_Claim_init.nd
  refine ⟨_, (pss_cons (ps_fld (pv 0) (pv 1) rfl) (pss_cons (ps_fld (pv 0) (pv 2) rfl) (pss_cons (ps_fld (pv 0) (pv 3) rfl) (pss_cons (ps_fld (pv 0) (pv 4) rfl) (pss_one (ps_fld (pv 0) pe_non rfl)))))), ?_⟩
  simp only [tSl, tPart, tNoPart, tCKw, tVals, gStar, gCons, gNil, StX.tStar, tFmtS, tFmtI, tM0, tJs, tM1, rNewStrs, tMatch, setAll, lit_to, lit_page, lit_section, lit_gone, lit_exact, lit_open, tAsg, tRet, tRetN, tDrop, tNext, tNever, tNot, tB, tTest, tCB, tCons, tVar, tC, tNil, tOp, tUn, tAndV, tOrV, tNotV, tChain, tTup, tLst, tCallR, tMethN, tMakeN, tPropN, tYes, gName, cx_K, cx_P, cx_w, rI0, rI, rEq, rNe, List.getElem?_cons_zero, List.getElem?_cons_succ, List.set_cons_zero, List.set_cons_succ, Option.some.injEq, exists_eq_left', exists_eq_left, V.bl.injEq, V.int.injEq, V.str.injEq, V.ref.injEq, List.cons.injEq, and_true, true_and, exists_and_left, and_assoc, List.append_nil, st_Claim_init]
  refine sfld_v rfl rfl ea L.c_Claim L.n_Claim_kind (Nat.le_of_ble_eq_true rfl) fun H1 s1 e1 => ?_
  refine sfld_v rfl rfl e1 L.c_Claim L.n_Claim_spot (Nat.le_of_ble_eq_true rfl) fun H2 s2 e2 => ?_
  refine sfld_v rfl rfl e2 L.c_Claim L.n_Claim_name (Nat.le_of_ble_eq_true rfl) fun H3 s3 e3 => ?_
  refine sfld_v rfl rfl e3 L.c_Claim L.n_Claim_made (Nat.le_of_ble_eq_true rfl) fun H4 s4 e4 => ?_
  refine sfld_c rfl e4 L.c_Claim L.n_Claim_ended (Nat.le_of_ble_eq_true rfl) fun H5 s5 e5 => ?_
  exact k H5 (fun b o hb q => s5 b o hb (s4 b o hb (s3 b o hb (s2 b o hb (s1 b o hb q))))) e5
/-- a claim's tuple -/
def CtAt (K : PySem.W.Frag) (H : Hp) (v : V) (c : Cl) : Prop := ∃ t u, v = .ref t ∧ SqT K H t [vW (sortN c.kind), u, vW c.name, .int (c.made : Int), oN c.ended] ∧ AdAt K H u c.spot
theorem CtAt.kt {H H' : Hp} {v : V} {c : Cl} (h : CtAt K H v c) (k : KeepT H H') : CtAt K H' v c := by
  obtain ⟨t, u, rfl, q, z⟩ := h
  exact ⟨t, u, rfl, sqt_kt k q, z.kt k⟩
theorem CtAt.dp {H : Hp} {v : V} {c : Cl} (h : CtAt K H v c) : Dp K H v (dCl c) := by
  obtain ⟨t, u, rfl, q, z⟩ := h
  exact .tup q (.cons (.str _) (.cons z.dp (.cons (.str _) (.cons (.int _) (.cons (oN_dp _) .nil)))))
theorem cts_dp {H : Hp} {vs : List V} {cs : List Cl} (h : Paired (CtAt K H) vs cs) : DpAll K H vs (cs.map dCl) := by
  induction h with
  | nil => exact .nil
  | cons h _ ih => exact .cons h.dp ih
abbrev N_Claim_as_tuple : List Str := ["self"]
theorem sc_Claim_as_tuple : FnScope N_Claim_as_tuple ["self"] (defScope s_Claim_as_tuple) := ⟨rfl, rfl, rfl, by decide +kernel, rfl, by decide +kernel, by decide +kernel⟩
theorem st_Claim_as_tuple (x0 : V) : L2.start N_Claim_as_tuple [x0] = [some x0] := rfl
def p_Claim_as_tuple : V → Hp → VK → Prop := fun v H Q => ∃ b c, v = .ref b ∧ ClAt K H b c ∧ ∀ v' H', Same H H' → CtAt K H' v' c → Q v' H'
theorem ok_Claim_as_tuple (L : Lw K mg) : FN P w K mg base 1 a_Claim_as_tuple (sp1 (p_Claim_as_tuple (K := K))) := by
  obtain ⟨fd, F⟩ := L.Claim_as_tuple
  refine fn_any F sc_Claim_as_tuple (len1 rfl) (fun _ _ _ _ _ _ us hl => match us, hl with | [_], _ => rfl) fun cdv A outer s H vs Q E hr h => ?_
  obtain ⟨_, rfl, b, c, rfl, ⟨dx, u, e, hu⟩, k⟩ := h
  have nd := sc_Claim_as_tuple.nd
  refine ⟨_, (pss_one (ps_ret (pe_tup (pa_cons (pe_fld (pv 0) rfl) (pa_cons (pe_fld (pv 0) rfl) (pa_cons (pe_fld (pv 0) rfl) (pa_cons (pe_fld (pv 0) rfl) (pa_cons (pe_fld (pv 0) rfl) pa_nil)))))))), ?_⟩
  simp only [tSl, tPart, tNoPart, tCKw, tVals, gStar, gCons, gNil, StX.tStar, tFmtS, tFmtI, tM0, tJs, tM1, rNewStrs, tMatch, setAll, lit_to, lit_page, lit_section, lit_gone, lit_exact, lit_open, tSeq, tAsg, tIfS, tRet, tRetN, tDrop, tNext, tNever, tOr, tAnd, tNot, tB, tTest, tCB, tCons, tVar, tC, tNil, tOp, tUn, tIf, tAndV, tOrV, tNotV, tChain, tTup, tLst, tCallR, tMethN, tMakeN, tPropN, tYes, gName, cx_K, cx_P, cx_w, rI0, rI, rEq, rNe, List.getElem?_cons_zero, List.getElem?_cons_succ, List.set_cons_zero, List.set_cons_succ, Option.some.injEq, exists_eq_left', exists_eq_left, V.bl.injEq, V.int.injEq, V.str.injEq, V.ref.injEq, List.cons.injEq, and_true, true_and, exists_and_left, and_assoc, List.append_nil, st_Claim_as_tuple]
  refine fld_at rfl e L.c_Claim L.n_Claim_kind rfl (fld_at rfl e L.c_Claim L.n_Claim_spot rfl (fld_at rfl e L.c_Claim L.n_Claim_name rfl (fld_at rfl e L.c_Claim L.n_Claim_made rfl (fld_at rfl e L.c_Claim L.n_Claim_ended rfl ⟨szl rfl, fun l hl => ?_⟩))))
  have s1 := (Same.refl H).nw (o := .tup [vW (sortN c.kind), u, vW c.name, .int (c.made : Int), oN c.ended]) hl
  exact k _ _ s1 ⟨l, u, rfl, SqT.of upd_same, hu.mono s1⟩
abbrev N_Site_init : List Str := ["self"]
theorem sc_Site_init : FnScope N_Site_init ["self"] (defScope s_Site_init) := ⟨rfl, rfl, rfl, by decide +kernel, rfl, by decide +kernel, by decide +kernel⟩
theorem st_Site_init (x0 : V) : L2.start N_Site_init [x0] = [some x0] := rfl
def p_Site_init : V → Hp → VK → Prop := fun t H Q => ∃ a dx, t = .ref a ∧ H a = some (.ins a_Site dx []) ∧ ∀ H' p, SameB a H H' → (∀ b ∈ p.all, H b = none) → SiteAt K H' a SS.nil p → Q .non H'
theorem ok_Site_init (L : Lw K mg) : FN P w K mg base 1 a_Site_init (sp1 (p_Site_init (K := K))) := by
  obtain ⟨fd, F⟩ := L.Site_init
  refine fn_any F sc_Site_init (len1 rfl) (fun _ _ _ _ _ _ us hl => match us, hl with | [_], _ => rfl) fun cdv A outer s H vs Q E hr h => ?_
  obtain ⟨_, rfl, a, dx, rfl, ea, k⟩ := h
  have nd := sc_Site_init.nd
  refine ⟨_, (pss_cons (ps_fld (pv 0) (pe_lst pa_nil) rfl) (pss_cons (ps_fld (pv 0) pe_dnewK rfl) (pss_cons (ps_fld (pv 0) pe_dnewK rfl) (pss_cons (ps_fld (pv 0) pe_dnewK rfl) (pss_one (ps_fld (pv 0) (pe_lst pa_nil) rfl)))))), ?_⟩
  simp only [tSl, tPart, tNoPart, tCKw, tVals, gStar, gCons, gNil, StX.tStar, tFmtS, tFmtI, tM0, tJs, tM1, rNewStrs, tMatch, setAll, lit_to, lit_page, lit_section, lit_gone, lit_exact, lit_open, tAsg, tRet, tRetN, tDrop, tNext, tNever, tNot, tB, tTest, tCB, tCons, tVar, tC, tNil, tOp, tUn, tAndV, tOrV, tNotV, tChain, tTup, tLst, tCallR, tMethN, tMakeN, tPropN, tYes, gName, cx_K, cx_P, cx_w, rI0, rI, rEq, rNe, List.getElem?_cons_zero, List.getElem?_cons_succ, List.set_cons_zero, List.set_cons_succ, Option.some.injEq, exists_eq_left', exists_eq_left, V.bl.injEq, V.int.injEq, V.str.injEq, V.ref.injEq, List.cons.injEq, and_true, true_and, exists_and_left, and_assoc, List.append_nil, st_Site_init]
  have hl : ∀ (σ : L2.St) (H : Hp) (Q : VK), (∀ p, H p = none → Q (.ref p) (upd H p (.lst []))) → tLst tNil σ H Q := fun σ H Q q => ⟨Nat.zero_le _, q⟩
  have hd : ∀ (σ : L2.St) (H : Hp) (Q : VK), (∀ p, H p = none → Q (.ref p) (upd H p (.dK []))) → tDNewK σ H Q := fun σ H Q q => q
  refine sfld_n (hl _ _) rfl ea L.c_Site L.n_Site_happened (Nat.le_of_ble_eq_true rfl) fun H1 p1 s1 f1 n1 g1 e1 => ?_
  refine sfld_n (hd _ _) rfl e1 L.c_Site L.n_Site_sorts (Nat.le_of_ble_eq_true rfl) fun H2 p2 s2 f2 n2 g2 e2 => ?_
  refine sfld_n (hd _ _) rfl e2 L.c_Site L.n_Site_spots (Nat.le_of_ble_eq_true rfl) fun H3 p3 s3 f3 n3 g3 e3 => ?_
  refine sfld_n (hd _ _) rfl e3 L.c_Site L.n_Site_others (Nat.le_of_ble_eq_true rfl) fun H4 p4 s4 f4 n4 g4 e4 => ?_
  refine sfld_n (hl _ _) rfl e4 L.c_Site L.n_Site_held (Nat.le_of_ble_eq_true rfl) fun H5 p5 s5 f5 n5 g5 e5 => ?_
  have g12 := s2 _ _ n1 g1
  have g13 := s3 _ _ n1 g12
  have g14 := s4 _ _ n1 g13
  have g23 := s3 _ _ n2 g2
  have g24 := s4 _ _ n2 g23
  have g34 := s4 _ _ n3 g3
  have bk : ∀ {H' : Hp} {p : Addr}, p ≠ a → (∀ b o, b ≠ a → H b = some o → H' b = some o) → H' p = none → H p = none := fun {H' p} hp s q => Option.eq_none_iff_forall_ne_some.mpr fun o e => by
    rw [s _ _ hp e] at q
    cases q
  have t1 := fun b o hb q => s1 b o hb q
  have t2 := fun b o hb q => s2 b o hb (t1 b o hb q)
  have t3 := fun b o hb q => s3 b o hb (t2 b o hb q)
  have t4 := fun b o hb q => s4 b o hb (t3 b o hb q)
  refine k H5 ⟨p1, p2, p3, p4, p5, []⟩ (fun b o hb q => s5 b o hb (t4 b o hb q)) ?_ ⟨⟨dx, e5⟩, ⟨[], s5 _ _ n1 g14, .nil⟩, s5 _ _ n2 g24, ⟨[], s5 _ _ n3 g34, .nil⟩, s5 _ _ n4 g4, g5, .nil, ?_, ?_, ?_, ?_, .nil⟩
  · intro b hb
    simp only [Pt.all, List.mem_cons, List.not_mem_nil, or_false] at hb
    rcases hb with rfl | rfl | rfl | rfl | rfl
    · exact f1
    · exact bk n2 t1 f2
    · exact bk n3 t2 f3
    · exact bk n4 t3 f4
    · exact bk n5 t4 f5
  · exact ne_of_none g14 f5
  · exact ne_of_none g2 f3
  · exact ne_of_none g23 f4
  · exact ne_of_none g3 f4
abbrev N_Site_names : List Str := ["self"]
theorem sc_Site_names : FnScope N_Site_names ["self"] (defScope s_Site_names) := ⟨rfl, rfl, rfl, by decide +kernel, rfl, by decide +kernel, by decide +kernel⟩
theorem st_Site_names (x0 : V) : L2.start N_Site_names [x0] = [some x0] := rfl
def p_Site_names : V → Hp → VK → Prop := fun v H Q => ∃ a st p, v = .ref a ∧ SiteAt K H a st p ∧ st.so.length ≤ 40 ∧ ∀ (q : Addr) (ys : List Wd) (H' : Hp), Same H H' → ys.Perm (st.so.map (·.1)) → H' q = some (.lst (ys.map vW)) → Q (.ref q) H'
theorem ok_Site_names (L : Lw K mg) : FN P w K mg base 1 a_Site_names (sp1 (p_Site_names (K := K))) := by
  obtain ⟨fd, F⟩ := L.Site_names
  refine fn_any F sc_Site_names (len1 rfl) (fun _ _ _ _ _ _ us hl => match us, hl with | [_], _ => rfl) fun cdv A outer s H vs Q E hr h => ?_
  obtain ⟨_, rfl, a, st, p, rfl, S, hl, k⟩ := h
  have nd := sc_Site_names.nd
  refine ⟨_, (pss_one (ps_ret (pe_callB (call_sortedD rfl) (by rfl) L.z_sorted (by decide +kernel) (pa_cons (pe_fld (pv 0) rfl) pa_nil)))), ?_⟩
  simp only [tSl, tPart, tNoPart, tCKw, tVals, gStar, gCons, gNil, StX.tStar, tFmtS, tFmtI, tM0, tJs, tM1, rNewStrs, tMatch, setAll, lit_to, lit_page, lit_section, lit_gone, lit_exact, lit_open, tSeq, tAsg, tIfS, tRet, tRetN, tDrop, tNext, tNever, tOr, tAnd, tNot, tB, tTest, tCB, tCons, tVar, tC, tNil, tOp, tUn, tIf, tAndV, tOrV, tNotV, tChain, tTup, tLst, tCallR, tMethN, tMakeN, tPropN, tYes, gName, cx_K, cx_P, cx_w, rI0, rI, rEq, rNe, List.getElem?_cons_zero, List.getElem?_cons_succ, List.set_cons_zero, List.set_cons_succ, Option.some.injEq, exists_eq_left', exists_eq_left, V.bl.injEq, V.int.injEq, V.str.injEq, V.ref.injEq, List.cons.injEq, and_true, true_and, exists_and_left, and_assoc, List.append_nil, st_Site_names]
  obtain ⟨dx, e⟩ := S.ins
  refine fld_at rfl e L.c_Site L.n_Site_sorts rfl ⟨p.so, rfl, _, .inl S.so, st.so.map (fun x => T x.1), ?_, ?_, ?_⟩
  · show (st.so.map _).map _ = (st.so.map _).map _
    rw [List.map_map, List.map_map]
    rfl
  · rw [List.length_map]
    omega
  · intro ys q hy _ hq
    obtain ⟨zs, rfl⟩ : ∃ zs : List Wd, ys = zs.map T := ⟨ys.map TL.tl, by rw [List.map_map]; exact (List.map_id'' (fun x => (TL.mk_tl x)) ys).symm⟩
    refine k q zs _ ((Same.refl H).nw hq) ?_ (by rw [upd_same, vW_map])
    have h1 : (zs.map T).map TL.tl = zs := by rw [List.map_map]; exact List.map_id'' (fun x => TL.tl_mk x) zs
    have h2 := hy.map TL.tl
    rw [h1, List.map_map] at h2
    exact h2
abbrev N_Site_last : List Str := ["self"]
theorem sc_Site_last : FnScope N_Site_last ["self"] (defScope s_Site_last) := ⟨rfl, rfl, rfl, by decide +kernel, rfl, by decide +kernel, by decide +kernel⟩
theorem st_Site_last (x0 : V) : L2.start N_Site_last [x0] = [some x0] := rfl
def p_Site_last : V → Hp → VK → Prop := fun v H Q => ∃ a st p i l, v = .ref a ∧ SiteAt K H a st p ∧ st.ev = i ++ [l] ∧ (∀ e ∈ st.ev, OkEv e) ∧ RetV H Q (.int (l.day : Int))
theorem ok_Site_last (L : Lw K mg) : FN P w K mg base 1 a_Site_last (sp1 (p_Site_last (K := K))) := by
  obtain ⟨fd, F⟩ := L.Site_last
  refine fn_any F sc_Site_last (len1 rfl) (fun _ _ _ _ _ _ us hl => match us, hl with | [_], _ => rfl) fun cdv A outer s H vs Q E hr h => ?_
  obtain ⟨_, rfl, a, st, p, i, l, rfl, S, he, ok, k⟩ := h
  have nd := sc_Site_last.nd
  refine ⟨_, (pss_one (ps_ret (pe_ifExp (pt_cmpR (op_neD hr.units) (pe_fld (pv 0) rfl) (pe_lst pa_nil) (nomark _)) (pe_ix (ix_tupK (K := K) rfl) (pe_ix (ix_listK (K := K) rfl) (pe_fld (pv 0) rfl) (pe_un un_neg pe_int) (fun _ _ => rfl)) pe_int (fun _ _ => rfl)) pe_non))), ?_⟩
  simp only [tSl, tPart, tNoPart, tCKw, tVals, gStar, gCons, gNil, StX.tStar, tFmtS, tFmtI, tM0, tJs, tM1, rNewStrs, tMatch, setAll, lit_to, lit_page, lit_section, lit_gone, lit_exact, lit_open, tSeq, tAsg, tIfS, tRet, tRetN, tDrop, tNext, tNever, tOr, tAnd, tNot, tB, tTest, tCB, tCons, tVar, tC, tNil, tOp, tUn, tIf, tAndV, tOrV, tNotV, tChain, tTup, tLst, tCallR, tMethN, tMakeN, tPropN, tYes, gName, cx_K, cx_P, cx_w, rI0, rI, rEq, rNe, List.getElem?_cons_zero, List.getElem?_cons_succ, List.set_cons_zero, List.set_cons_succ, Option.some.injEq, exists_eq_left', exists_eq_left, V.bl.injEq, V.int.injEq, V.str.injEq, V.ref.injEq, List.cons.injEq, and_true, true_and, exists_and_left, and_assoc, List.append_nil, st_Site_last]
  obtain ⟨dx, e⟩ := S.ins
  obtain ⟨vs, eh, ev⟩ := S.h
  refine fld_at rfl e L.c_Site L.n_Site_happened rfl ⟨szl rfl, fun q hq => ?_⟩
  have s1 := (Same.refl H).nw (o := .lst []) hq
  refine ⟨_, _, .lst (SqL.of (s1 _ _ eh)) (dpa_mono s1 (evs_dp ev)), .lst (SqL.of upd_same) .nil, shaped_evs ok, rfl, true, ?_, iteT ?_⟩
  · rw [he, List.map_append]
    cases i <;> rfl
  · refine fld_at rfl (s1 _ _ e) L.c_Site L.n_Site_happened rfl ⟨_, rfl, ?_⟩
    obtain ⟨ws, z, rfl, hz⟩ : ∃ ws z, vs = ws ++ [z] ∧ EvAt K H z l := by
      rw [he] at ev
      rcases List.eq_nil_or_concat vs with rfl | ⟨ws, z, rfl⟩
      · have h0 := Paired.length ev
        simp at h0
      · rw [List.concat_eq_append] at ev ⊢
        have hl := Paired.length ev
        simp only [List.length_append, List.length_cons, List.length_nil] at hl
        obtain ⟨y, hy, q⟩ := paired_get (i := ws.length) (x := z) ev (by simp)
        rw [List.getElem?_append_right (by omega), show ws.length - i.length = 0 by omega] at hy
        simp at hy
        exact ⟨ws, z, rfl, hy ▸ q⟩
    refine ⟨p.h, _, _, z, rfl, rfl, SqL.of (s1 _ _ eh), atI_last _ _, ?_⟩
    have hz2 := hz.kt s1.kt
    cases l with
    | pl => obtain ⟨t, u, rfl, q, _⟩ := hz2; exact ixT_at (i := 0) q rfl (k _ s1)
    | merge => obtain ⟨t, rfl, q⟩ := hz2; exact ixT_at (i := 0) q rfl (k _ s1)
    | take => obtain ⟨t, rfl, q⟩ := hz2; exact ixT_at (i := 0) q rfl (k _ s1)
abbrev N_Site_need_free : List Str := ["self", "sort", "place", "name", "spot"]
theorem sc_Site_need_free : FnScope N_Site_need_free ["self", "sort", "place"] (defScope s_Site_need_free) := ⟨rfl, rfl, rfl, by decide +kernel, rfl, by decide +kernel, by decide +kernel⟩
theorem st_Site_need_free (x0 x1 x2 : V) : L2.start N_Site_need_free [x0, x1, x2] = [some x0, some x1, some x2, none, none] := rfl
def p_Site_need_free : V → V → V → Hp → VK → Prop := fun v sv pv H Q => ∃ a st p s q, v = .ref a ∧ sv = vW (sortN s) ∧ AdAt K H pv q ∧ OkA q ∧ SiteAt K H a st p ∧ (∀ x ∈ st.sp, OkA x.2) ∧ (∀ x ∈ st.sp, ∃ s', aget st.so x.1 = some s' ∧ (x.2 = q → s' ≠ s)) ∧ st.sp.length ≤ 1000 ∧ RetV H Q .non
theorem ok_Site_need_free (L : Lw K mg) : FN P w K mg base 1 a_Site_need_free (sp3 (p_Site_need_free (K := K))) := by
  obtain ⟨fd, F⟩ := L.Site_need_free
  refine fn_any F sc_Site_need_free (len3 rfl) (fun _ _ _ _ _ _ us hl => match us, hl with | [_, _, _], _ => rfl) fun cdv A outer s H vs Q E hr h => ?_
  obtain ⟨_, _, qv, rfl, a, st, p, so, q, rfl, rfl, hq, okq, S, okp, fr, hz, k⟩ := h
  have nd := sc_Site_need_free.nd
  refine ⟨_, (pss_one (ps_lock (ps_for PassesOwn.never rfl (pi_items (pe_fld (pv 0) rfl)) (pg_tup rfl (pgs_cons (pg_name (i := 3) nd rfl (Or.inl rfl)) (pgs_cons (pg_name (i := 4) nd rfl (Or.inl rfl)) pgs_nil))) (pss_one (ps_if (PW.pt (pw_and (pt_cmpR (op_eqD hr.units) (pv 4) (pv 2) (nomark _)) (pw_and1 (pt_cmpR op_eq (pe_dget (hu_of hr) (pe_fld (pv 0) rfl) (pv 3) (fun _ _ => rfl)) (pv 1) (nomark _))))) (pss_one ps_never) pss_nil))))), ?_⟩
  simp only [tSl, tPart, tNoPart, tCKw, tVals, gStar, gCons, gNil, StX.tStar, tFmtS, tFmtI, tM0, tJs, tM1, rNewStrs, tMatch, setAll, lit_to, lit_page, lit_section, lit_gone, lit_exact, lit_open, tAsg, tRet, tRetN, tDrop, tNext, tNever, tNot, tB, tTest, tCB, tCons, tVar, tC, tNil, tOp, tUn, tAndV, tOrV, tNotV, tChain, tTup, tLst, tCallR, tMethN, tMakeN, tPropN, tYes, gName, cx_K, cx_P, cx_w, rI0, rI, rEq, rNe, List.getElem?_cons_zero, List.getElem?_cons_succ, List.set_cons_zero, List.set_cons_succ, Option.some.injEq, exists_eq_left', exists_eq_left, V.bl.injEq, V.int.injEq, V.str.injEq, V.ref.injEq, List.cons.injEq, and_true, true_and, exists_and_left, and_assoc, List.append_nil, st_Site_need_free]
  obtain ⟨dx, e⟩ := S.ins
  obtain ⟨ks, ek, hk⟩ := S.sp
  have hkl := Paired.length hk
  refine ⟨p.sp, .dK ks, ek, trivial, fun od => ?_⟩
  have na : a ≠ p.sp := ne_of e ek (fun z => nomatch z)
  have kt0 : KeepT H (upd H p.sp (.frz od (.dK ks))) := (Same.refl H).kt.mut ek trivial
  have ea1 : (upd H p.sp (.frz od (.dK ks))) a = _ := (upd_ne na).trans e
  have eo1 : (upd H p.sp (.frz od (.dK ks))) p.so = _ := (upd_ne S.n2).trans S.so
  have el1 : (upd H p.sp (.frz od (.dK ks))) p.sp = some (.frz od (.dK ks)) := upd_same
  have back : ∀ H', Same (upd H p.sp (.frz od (.dK ks))) H' → Same H (upd H' p.sp (.dK ks)) := fun H' s b o q => by
    by_cases hb : b = p.sp
    · rw [hb, ek] at q
      cases q
      rw [hb]
      exact upd_same
    · exact (upd_ne hb).trans (s _ _ ((upd_ne hb).trans q))
  have hk1 := hk.kt kt0
  have hq1 := hq.kt kt0
  generalize upd H p.sp (.frz od (.dK ks)) = H1 at *
  refine tFor_w (walk_items (d := p.sp) (o := od) (kvs := ks)) (fun R r => fld_at rfl ea1 L.c_Site L.n_Site_spots rfl ⟨_, od, ks, rfl, el1, r⟩) (fun i σ H' => (∃ o3 o4, σ = [some (.ref a), some (vW (sortN so)), some qv, o3, o4]) ∧ Same H1 H') ⟨⟨_, _, rfl⟩, Same.refl _⟩ (fun i σ H' _ q => q.2 _ _ el1) ?_ ?_
  · rintro i x σ H2 H3 hi ⟨⟨o3, o4, rfl⟩, s1⟩ ⟨T0, y, z, rfl, hT, rfl, hy, hz⟩
    have hx : ks[i]? = some ks[i] := List.getElem?_eq_getElem hi
    replace hy : (ks[i]?).map (fun kv => kV kv.1) = some y := hy
    replace hz : (ks[i]?).map Prod.snd = some z := hz
    rw [hx] at hy hz
    obtain ⟨w0, hw, k1, k2⟩ := paired_get hk1 hx
    have ey : y = vW w0.1 := (Option.some.inj hy).symm.trans (show kV ks[i].1 = vW w0.1 by rw [k1] <;> rfl)
    subst ey
    cases hz
    have hwm := List.mem_of_getElem? hw
    have s2 := s1.nw (o := .tup [vW w0.1, ks[i].2]) hT
    refine ⟨T0, _, rfl, SqT.of upd_same, rfl, ?_⟩
    obtain ⟨s', g1, g2⟩ := fr w0 hwm
    refine ⟨_, _, rfl, _, _, rfl, rfl, ?_⟩
    refine if_no (fun R r => ?_) fun H4 s4 => ⟨⟨_, _, rfl⟩, s2.trans s4⟩
    simp only [tSl, tPart, tNoPart, tCKw, tVals, gStar, gCons, gNil, StX.tStar, tFmtS, tFmtI, tM0, tJs, tM1, rNewStrs, tMatch, setAll, lit_to, lit_page, lit_section, lit_gone, lit_exact, lit_open, tSeq, tAsg, tIfS, tRet, tRetN, tDrop, tNext, tNever, tOr, tAnd, tNot, tB, tTest, tCB, tCons, tVar, tC, tNil, tOp, tUn, tIf, tAndV, tOrV, tNotV, tChain, tTup, tLst, tCallR, tMethN, tMakeN, tPropN, tYes, gName, cx_K, cx_P, cx_w, rI0, rI, rEq, rNe, List.getElem?_cons_zero, List.getElem?_cons_succ, List.set_cons_zero, List.set_cons_succ, Option.some.injEq, exists_eq_left', exists_eq_left, V.bl.injEq, V.int.injEq, V.str.injEq, V.ref.injEq, List.cons.injEq, and_true, true_and, exists_and_left, and_assoc, List.append_nil]
    refine ⟨dA w0.2, dA q, (k2.mono s2).dp, (hq1.mono s2).dp, shaped_A (okp _ hwm).ok, shaped_A okq.ok, ?_⟩
    rw [eqv_A]
    by_cases hs : w0.2 = q
    · rw [decide_eq_true hs]
      refine ⟨true, rfl, iteT ?_⟩
      refine fld_at rfl (s2 _ _ ea1) L.c_Site L.n_Site_sorts rfl ⟨_, rfl, p.so, _, rfl, dget_so (s2 _ _ eo1) g1, ?_⟩
      refine ⟨scal_W, ?_⟩
      rw [dec_W, decide_eq_false (sortN_ne (g2 hs))]
      exact r _ (Same.refl _)
    · rw [decide_eq_false hs]
      exact ⟨false, rfl, iteF (r _ (Same.refl _))⟩
  · rintro σ H2 ⟨_, s1⟩
    exact ⟨s1 _ _ el1, k _ (back H2 s1)⟩
end
end K88
set_option maxHeartbeats 4000000
/-! A site's middle parts. -/
namespace K88
open PySem PySem.Spec PyProof.Rows L2
theorem list_set_same {α : Type} : ∀ {l : List α} {i : Nat} {x : α}, l[i]? = some x → l.set i x = l
  | [], _, _, h => by simp at h
  | y :: l, 0, x, h => by
    have e : y = x := by simpa using h
    rw [e]
    rfl
  | y :: l, i + 1, x, h => by
    rw [List.set_cons_succ, list_set_same (by simpa using h)]
section
variable {P : Program} {w : World} {K : PySem.W.Frag} {mg : Str → Option Value} {base : Heap}
abbrev N_Site_need_known : List Str := ["self", "name"]
theorem sc_Site_need_known : FnScope N_Site_need_known ["self", "name"] (defScope s_Site_need_known) := ⟨rfl, rfl, rfl, by decide +kernel, rfl, by decide +kernel, by decide +kernel⟩
theorem st_Site_need_known (x0 x1 : V) : L2.start N_Site_need_known [x0, x1] = [some x0, some x1] := rfl
def p_Site_need_known : V → V → Hp → VK → Prop := fun v nv H Q => ∃ a st p n s, v = .ref a ∧ nv = vW n ∧ SiteAt K H a st p ∧ aget st.so n = some s ∧ RetV H Q .non
theorem ok_Site_need_known (L : Lw K mg) : FN P w K mg base 1 a_Site_need_known (sp2 (p_Site_need_known (K := K))) := by
  obtain ⟨fd, F⟩ := L.Site_need_known
  refine fn_any F sc_Site_need_known (len2 rfl) (fun _ _ _ _ _ _ us hl => match us, hl with | [_, _], _ => rfl) fun cdv A outer s H vs Q E hr h => ?_
  obtain ⟨_, _, rfl, a, st, p, n, so, rfl, rfl, S, hg, k⟩ := h
  have nd := sc_Site_need_known.nd
  refine ⟨_, (pss_one (ps_if (PW.pt (pw_or (pt_not (pt_val (pe_callB call_isi (by rfl) L.z_isinstance (by decide +kernel) (pa_cons (pv 1) (pa_cons (pe_bltn (v := .ty "str") (by rfl) L.z_str (by decide +kernel) rfl) pa_nil))))) (pw_or1 (pt_cmp (pc_dnotin (hu_of hr) (pv 1) (pe_fld (pv 0) rfl)))))) (pss_one ps_never) pss_nil)), ?_⟩
  simp only [tSl, tPart, tNoPart, tCKw, tVals, gStar, gCons, gNil, StX.tStar, tFmtS, tFmtI, tM0, tJs, tM1, rNewStrs, tMatch, setAll, lit_to, lit_page, lit_section, lit_gone, lit_exact, lit_open, tSeq, tAsg, tIfS, tRet, tRetN, tDrop, tNext, tNever, tOr, tAnd, tNot, tB, tTest, tCB, tCons, tVar, tC, tNil, tOp, tUn, tIf, tAndV, tOrV, tNotV, tChain, tTup, tLst, tCallR, tMethN, tMakeN, tPropN, tYes, gName, cx_K, cx_P, cx_w, rI0, rI, rEq, rNe, List.getElem?_cons_zero, List.getElem?_cons_succ, List.set_cons_zero, List.set_cons_succ, Option.some.injEq, exists_eq_left', exists_eq_left, V.bl.injEq, V.int.injEq, V.str.injEq, V.ref.injEq, List.cons.injEq, and_true, true_and, exists_and_left, and_assoc, List.append_nil, st_Site_need_known]
  obtain ⟨dx, e⟩ := S.ins
  refine isi_ty (.base (.str _)) kb_ss ⟨true, rfl, iteF ?_⟩
  exact ⟨_, rfl, fld_at rfl e L.c_Site L.n_Site_sorts rfl ⟨p.so, _, rfl, dget_so S.so hg, false, rfl, iteF (k H (Same.refl H))⟩⟩
abbrev N_Site_need_standing : List Str := ["self", "name"]
theorem sc_Site_need_standing : FnScope N_Site_need_standing ["self", "name"] (defScope s_Site_need_standing) := ⟨rfl, rfl, rfl, by decide +kernel, rfl, by decide +kernel, by decide +kernel⟩
theorem st_Site_need_standing (x0 x1 : V) : L2.start N_Site_need_standing [x0, x1] = [some x0, some x1] := rfl
def p_Site_need_standing : V → V → Hp → VK → Prop := fun v nv H Q => ∃ a st p n q, v = .ref a ∧ nv = vW n ∧ SiteAt K H a st p ∧ aget st.sp n = some q ∧ RetV H Q .non
theorem ok_Site_need_standing (L : Lw K mg) : FN P w K mg base 1 a_Site_need_standing (sp2 (p_Site_need_standing (K := K))) := by
  obtain ⟨fd, F⟩ := L.Site_need_standing
  refine fn_any F sc_Site_need_standing (len2 rfl) (fun _ _ _ _ _ _ us hl => match us, hl with | [_, _], _ => rfl) fun cdv A outer s H vs Q E hr h => ?_
  obtain ⟨_, _, rfl, a, st, p, n, q, rfl, rfl, S, hg, k⟩ := h
  have nd := sc_Site_need_standing.nd
  refine ⟨_, (pss_one (ps_if (pt_cmp (pc_dnotin (hu_of hr) (pv 1) (pe_fld (pv 0) rfl))) (pss_one ps_never) pss_nil)), ?_⟩
  simp only [tSl, tPart, tNoPart, tCKw, tVals, gStar, gCons, gNil, StX.tStar, tFmtS, tFmtI, tM0, tJs, tM1, rNewStrs, tMatch, setAll, lit_to, lit_page, lit_section, lit_gone, lit_exact, lit_open, tSeq, tAsg, tIfS, tRet, tRetN, tDrop, tNext, tNever, tOr, tAnd, tNot, tB, tTest, tCB, tCons, tVar, tC, tNil, tOp, tUn, tIf, tAndV, tOrV, tNotV, tChain, tTup, tLst, tCallR, tMethN, tMakeN, tPropN, tYes, gName, cx_K, cx_P, cx_w, rI0, rI, rEq, rNe, List.getElem?_cons_zero, List.getElem?_cons_succ, List.set_cons_zero, List.set_cons_succ, Option.some.injEq, exists_eq_left', exists_eq_left, V.bl.injEq, V.int.injEq, V.str.injEq, V.ref.injEq, List.cons.injEq, and_true, true_and, exists_and_left, and_assoc, List.append_nil, st_Site_need_standing]
  obtain ⟨dx, e⟩ := S.ins
  obtain ⟨ks, ek, hk⟩ := S.sp
  have h1 := DGet.k (k := kW n) ek
  obtain ⟨v, hv⟩ : ∃ v, valV ks (kW n) = some v := Option.isSome_iff_exists.mp (by rw [valV_sp n hk, hg] <;> rfl)
  rw [hv] at h1
  exact ⟨_, rfl, fld_at rfl e L.c_Site L.n_Site_spots rfl ⟨p.sp, _, rfl, h1, false, rfl, iteF (k H (Same.refl H))⟩⟩
abbrev N_Site_need_day : List Str := ["self", "day"]
theorem sc_Site_need_day : FnScope N_Site_need_day ["self", "day"] (defScope s_Site_need_day) := ⟨rfl, rfl, rfl, by decide +kernel, rfl, by decide +kernel, by decide +kernel⟩
theorem st_Site_need_day (x0 x1 : V) : L2.start N_Site_need_day [x0, x1] = [some x0, some x1] := rfl
def p_Site_need_day : V → V → Hp → VK → Prop := fun v dv H Q => ∃ (a : Addr) (st : SS) (p : Pt) (d : Nat), v = .ref a ∧ dv = .int (d : Int) ∧ SiteAt K H a st p ∧ d ≤ 1000000 ∧ (∀ e ∈ st.ev, OkEv e ∧ e.day ≤ d) ∧ RetV H Q .non
theorem ok_Site_need_day (L : Lw K mg) : FN P w K mg base 3 a_Site_need_day (sp2 (p_Site_need_day (K := K))) := by
  obtain ⟨fd, F⟩ := L.Site_need_day
  refine fn_any F sc_Site_need_day (len2 rfl) (fun _ _ _ _ _ _ us hl => match us, hl with | [_, _], _ => rfl) fun cdv A outer s H vs Q E hr h => ?_
  obtain ⟨_, _, rfl, a, st, p, d, rfl, rfl, S, hd, he, k⟩ := h
  have nd := sc_Site_need_day.nd
  refine ⟨_, (pss_one (ps_if (PW.pt (pw_or (pt_not (pt_val (pe_g (ok_is_day L) (hr.mono (by decide)) rfl L.g_is_day L.is_day.kp (pa_cons (pv 1) pa_nil)))) (pw_or1 (PW.pt (pw_and (pt_cmpR (op_neD hr.units) (pe_fld (pv 0) rfl) (pe_lst pa_nil) (nomark _)) (pw_and1 (pt_cmpR op_lt (pv 1) (pe_pr (pv 0) L.c_Site L.p_Site_last (ok_Site_last L) (hr.mono (by decide)) rfl) (nomark _)))))))) (pss_one ps_never) pss_nil)), ?_⟩
  simp only [tSl, tPart, tNoPart, tCKw, tVals, gStar, gCons, gNil, StX.tStar, tFmtS, tFmtI, tM0, tJs, tM1, rNewStrs, tMatch, setAll, lit_to, lit_page, lit_section, lit_gone, lit_exact, lit_open, tSeq, tAsg, tIfS, tRet, tRetN, tDrop, tNext, tNever, tOr, tAnd, tNot, tB, tTest, tCB, tCons, tVar, tC, tNil, tOp, tUn, tIf, tAndV, tOrV, tNotV, tChain, tTup, tLst, tCallR, tMethN, tMakeN, tPropN, tYes, gName, cx_K, cx_P, cx_w, rI0, rI, rEq, rNe, List.getElem?_cons_zero, List.getElem?_cons_succ, List.set_cons_zero, List.set_cons_succ, Option.some.injEq, exists_eq_left', exists_eq_left, V.bl.injEq, V.int.injEq, V.str.injEq, V.ref.injEq, List.cons.injEq, and_true, true_and, exists_and_left, and_assoc, List.append_nil, st_Site_need_day]
  refine ⟨_, rfl, d, rfl, Int.natCast_nonneg d, by omega, fun H1 s1 => ⟨true, rfl, iteF ?_⟩⟩
  have S1 := S.mono s1
  obtain ⟨dx, e⟩ := S1.ins
  obtain ⟨vs, eh, ev⟩ := S1.h
  refine fld_at rfl e L.c_Site L.n_Site_happened rfl ⟨szl rfl, fun q hq => ?_⟩
  have s2 := (Same.refl H1).nw (o := .lst []) hq
  refine ⟨_, _, .lst (SqL.of (s2 _ _ eh)) (dpa_mono s2 (evs_dp ev)), .lst (SqL.of upd_same) .nil, shaped_evs (fun e he' => (he e he').1), rfl, ?_⟩
  rcases List.eq_nil_or_concat st.ev with hn | ⟨i, l, hn⟩
  · rw [hn]
    exact ⟨false, rfl, iteF (iteF (k _ (s1.trans s2)))⟩
  · rw [List.concat_eq_append] at hn
    refine ⟨true, by rw [hn]; cases i <;> rfl, iteT ?_⟩
    refine ⟨dx, _, s2 _ _ e, _, rfl, a, st, p, i, l, rfl, S1.mono s2, hn, (fun e he' => (he e he').1), fun H3 s3 => ⟨_, rfl, ?_⟩⟩
    have h4 := (he l (by rw [hn]; exact List.mem_append_right _ (List.mem_singleton.mpr rfl))).2
    rw [if_neg (by rw [decide_eq_false (by omega)]; decide)]
    exact k _ ((s1.trans s2).trans s3)
abbrev N_Site_note : List Str := ["self", "event"]
theorem sc_Site_note : FnScope N_Site_note ["self", "event"] (defScope s_Site_note) := ⟨rfl, rfl, rfl, by decide +kernel, rfl, by decide +kernel, by decide +kernel⟩
theorem st_Site_note (x0 x1 : V) : L2.start N_Site_note [x0, x1] = [some x0, some x1] := rfl
def sp_note (K : PySem.W.Frag) : Sp := fun vs H Q _ => ∃ (a : Addr) (st : SS) (p : Pt) (e : Ev) (rest : List V), vs = .ref a :: rest ∧ SiteAt K H a st p ∧ st.ev.length ≤ 1000 ∧ rest.length ≤ 5 ∧ (∀ t, H t = none → EvAt K (upd H t (.tup rest)) (.ref t) e) ∧ ∀ H', KeepF p H H' → SiteAt K H' a (st.note e) p → Q .non H'
theorem ok_Site_note (L : Lw K mg) : FN P w K mg base 1 a_Site_note (sp_note K) := by
  obtain ⟨fd, F⟩ := L.Site_note
  obtain ⟨oc, od, dV, kV, doc, pm, an, cdv, ct, osl, rfl, lk, hcd, hD, hK⟩ := F.ex
  obtain rfl : dV = .none := hD.elim (fun q => q.2) fun q => absurd rfl q.1
  refine (StX.fn_star (CX := CX0) (ps := ["self"]) (pv := "event") (N := N_Site_note) (sp := fun vs H Q _ => ∃ (a : Addr) (st : SS) (p : Pt) (e : Ev) (t : Addr), vs = [.ref a, .ref t] ∧ SiteAt K H a st p ∧ st.ev.length ≤ 1000 ∧ EvAt K H (.ref t) e ∧ ∀ H', KeepF p H H' → SiteAt K H' a (st.note e) p → Q .non H') lk hcd sc_Site_note StX.cxUp_none
    (StX.bind_star1 (B := fun us => bindArgs (PySem.W.fnOf "note" "Site.note" (defArgs s_Site_note) (defBody s_Site_note) (defScope s_Site_note) .none kV doc pm an cdv ct) ⟨us, []⟩) (fun a => rfl) (fun a r rs => rfl)) fun A outer s H vs Q E hr h => ?_).imp fun vs H Q E h => ?_
  · obtain ⟨a, st, p, e, t, rfl, S, hl, ev, k⟩ := h
    have nd := sc_Site_note.nd
    have hx : ∃ t0, PSs (cxOf CX0 P w K mg base N_Site_note "Site.note" (defScope s_Site_note) a_Site_note cdv A outer s H E).nox (defBody s_Site_note) t0 ∧ t0 { nx := fun _ H' => Q .non H', rt := Q } (L2.start N_Site_note [.ref a, .ref t]) H := by
      refine ⟨_, (pss_one (ps_expr (pe_bm PySem.F.plainAttrs_list PySem.F.slot_list_append PySem.F.type_list_append mt_append (pe_fld (pv 0) rfl) (pa_cons (pv 1) pa_nil)))), ?_⟩
      simp only [tSl, tPart, tNoPart, tCKw, tVals, gStar, gCons, gNil, StX.tStar, tFmtS, tFmtI, tM0, tJs, tM1, rNewStrs, tMatch, setAll, lit_to, lit_page, lit_section, lit_gone, lit_exact, lit_open, tSeq, tAsg, tIfS, tRet, tRetN, tDrop, tNext, tNever, tOr, tAnd, tNot, tB, tTest, tCB, tCons, tVar, tC, tNil, tOp, tUn, tIf, tAndV, tOrV, tNotV, tChain, tTup, tLst, tCallR, tMethN, tMakeN, tPropN, tYes, gName, cx_K, cx_P, cx_w, rI0, rI, rEq, rNe, List.getElem?_cons_zero, List.getElem?_cons_succ, List.set_cons_zero, List.set_cons_succ, Option.some.injEq, exists_eq_left', exists_eq_left, V.bl.injEq, V.int.injEq, V.str.injEq, V.ref.injEq, List.cons.injEq, and_true, true_and, exists_and_left, and_assoc, List.append_nil, st_Site_note]
      obtain ⟨dx, e1⟩ := S.ins
      obtain ⟨vs, eh, hv⟩ := S.h
      have sb : SameB p.h H (upd H p.h (.lst (vs ++ [.ref t]))) := (SameB.refl _ _).self
      have kt := sb.kt eh trivial
      refine fld_at rfl e1 L.c_Site L.n_Site_happened rfl ⟨.inl ⟨rfl, _, SqL.of eh⟩, _, rfl, p.h, vs, _, rfl, rfl, eh, Nat.lt_of_le_of_lt (show vs.length ≤ 1000 by rw [Paired.length hv]; exact hl) (by decide), ?_⟩
      exact k _ (KeepF.of (by simp [Pt.all]) sb) (S.setH sb upd_same (paired_snoc (ev.kt kt) (paired_imp hv fun _ _ q => q.kt kt)))
    exact hx.imp fun t q => ⟨q.1.nox, q.2⟩
  · obtain ⟨a, st, p, e, rest, rfl, S, hl, hr, ev, k⟩ := h
    refine ⟨[.ref a], rest, rfl, rfl, Nat.le_trans hr (by decide), fun t ht => ⟨a, st, p, e, t, rfl, S.mono ((Same.refl H).nw ht), hl, ev t ht, fun H' kf S' => k H' (fun b o n e => kf b o n (((Same.refl H).nw ht) _ _ e)) S'⟩⟩
abbrev N_Site_end_claim : List Str := ["self", "name", "claim"]
theorem sc_Site_end_claim : FnScope N_Site_end_claim ["self", "name"] (defScope s_Site_end_claim) := ⟨rfl, rfl, rfl, by decide +kernel, rfl, by decide +kernel, by decide +kernel⟩
theorem st_Site_end_claim (x0 x1 : V) : L2.start N_Site_end_claim [x0, x1] = [some x0, some x1, none] := rfl
def p_Site_end_claim : V → V → Hp → VK → Prop := fun v nv H Q => ∃ (a : Addr) (st : SS) (p : Pt) (n : Wd) (q : Ad), v = .ref a ∧ nv = vW n ∧ SiteAt K H a st p ∧ aget st.sp n = some q ∧ ∀ H', KeepF p H H' → SiteAt K H' a (st.endC n) p → Q .non H'
theorem ok_Site_end_claim (L : Lw K mg) : FN P w K mg base 1 a_Site_end_claim (sp2 (p_Site_end_claim (K := K))) := by
  obtain ⟨fd, F⟩ := L.Site_end_claim
  refine fn_any F sc_Site_end_claim (len2 rfl) (fun _ _ _ _ _ _ us hl => match us, hl with | [_, _], _ => rfl) fun cdv A outer s H vs Q E hr h => ?_
  obtain ⟨_, _, rfl, a, st, p, n, q, rfl, rfl, S, hg, k⟩ := h
  have nd := sc_Site_end_claim.nd
  refine ⟨_, (pss_cons (ps_expr (pe_dpop1 (pe_fld (pv 0) rfl) (pv 1) ⟨rfl, rfl, rfl, rfl⟩)) (pss_one (ps_for PassesOwn.never rfl (pi_list (pe_fld (pv 0) rfl)) (pg_name (i := 2) nd rfl (Or.inl rfl)) (pss_one (ps_if (PW.pt (pw_and (pt_cmpR op_eq (pe_fld (pv 2) rfl) (pv 1) (nomark _)) (pw_and1 (pt_cmpR op_isN (pe_fld (pv 2) rfl) pe_non (nomark _))))) (pss_one (ps_fld (pv 2) (pe_callB call_len (by rfl) L.z_len (by decide +kernel) (pa_cons (pe_fld (pv 0) rfl) pa_nil)) rfl)) pss_nil))))), ?_⟩
  simp only [tSl, tPart, tNoPart, tCKw, tVals, gStar, gCons, gNil, StX.tStar, tFmtS, tFmtI, tM0, tJs, tM1, rNewStrs, tMatch, setAll, lit_to, lit_page, lit_section, lit_gone, lit_exact, lit_open, tAsg, tRet, tRetN, tDrop, tNext, tNever, tNot, tB, tTest, tCB, tCons, tVar, tC, tNil, tOp, tUn, tAndV, tOrV, tNotV, tChain, tTup, tLst, tCallR, tMethN, tMakeN, tPropN, tYes, gName, cx_K, cx_P, cx_w, rI0, rI, rEq, rNe, List.getElem?_cons_zero, List.getElem?_cons_succ, List.set_cons_zero, List.set_cons_succ, Option.some.injEq, exists_eq_left', exists_eq_left, V.bl.injEq, V.int.injEq, V.str.injEq, V.ref.injEq, List.cons.injEq, and_true, true_and, exists_and_left, and_assoc, List.append_nil, st_Site_end_claim]
  obtain ⟨dx, e⟩ := S.ins
  obtain ⟨ks, ek, hk⟩ := S.sp
  obtain ⟨v, hv⟩ : ∃ v, valV ks (kW n) = some v := Option.isSome_iff_exists.mp (by rw [valV_sp n hk, hg] <;> rfl)
  refine sdrop (fld_at rfl e L.c_Site L.n_Site_spots rfl ⟨p.sp, rfl, .inl ⟨ks, .inl ek⟩, _, rfl, ks, kW n, v, ek, rfl, hv, ?_⟩)
  have sb : SameB p.sp H (upd H p.sp (.dK (dropK ks (kW n)))) := (SameB.refl _ _).self
  have S1 := S.setSp sb upd_same ((spAt_del n hk).kt (sb.kt ek trivial))
  have k1 : KeepF p H (upd H p.sp (.dK (dropK ks (kW n)))) := KeepF.of (by simp [Pt.all]) sb
  generalize upd H p.sp (.dK (dropK ks (kW n))) = H1 at *
  obtain ⟨dx1, e1⟩ := S1.ins
  refine tFor_w (walk_list (a := p.he) (xs := p.cs.map V.ref)) (fun R r => fld_at rfl e1 L.c_Site L.n_Site_held rfl ⟨p.he, rfl, ⟨_, SqL.of S1.he⟩, r⟩)
    (fun i σ H' => (∃ o, σ = [some (.ref a), some (vW n), o]) ∧ SiteAt K H' a { st with sp := adel st.sp n, he := (st.he.take i).map (Cl.endAt n st.ev.length) ++ st.he.drop i } p ∧ KeepF p H H') ⟨⟨_, rfl⟩, S1, k1⟩ (fun i σ H' _ q => SqL.of q.2.1.he) ?_ ?_
  · rintro i x σ H2 H3 hi ⟨⟨o, rfl⟩, S2, k2⟩ ⟨rfl, hx⟩
    rw [List.getElem?_map] at hx
    obtain ⟨c, hc, rfl⟩ := Option.map_eq_some_iff.mp hx
    have hil : i < st.he.length := by
      have h1 := Paired.length S.cs
      have h2 := (List.getElem?_eq_some_iff.mp hc).1
      omega
    obtain ⟨cl, hcl, hca⟩ := paired_get S2.cs hc
    have hcl' : st.he[i]? = some cl := by rw [← get_step (Cl.endAt n st.ev.length) st.he i hil]; exact hcl
    have hst := set_step (Cl.endAt n st.ev.length) st.he i cl hcl'
    obtain ⟨dc, u, ec, hu⟩ := id hca
    by_cases hend : cl.name = n ∧ cl.ended = none
    · refine if_yes (fun R r => ?_) fun H4 s4 => ?_
      · simp only [tSl, tPart, tNoPart, tCKw, tVals, gStar, gCons, gNil, StX.tStar, tFmtS, tFmtI, tM0, tJs, tM1, rNewStrs, tMatch, setAll, lit_to, lit_page, lit_section, lit_gone, lit_exact, lit_open, tSeq, tAsg, tIfS, tRet, tRetN, tDrop, tNext, tNever, tOr, tAnd, tNot, tB, tTest, tCB, tCons, tVar, tC, tNil, tOp, tUn, tIf, tAndV, tOrV, tNotV, tChain, tTup, tLst, tCallR, tMethN, tMakeN, tPropN, tYes, gName, cx_K, cx_P, cx_w, rI0, rI, rEq, rNe, List.getElem?_cons_zero, List.getElem?_cons_succ, List.set_cons_zero, List.set_cons_succ, Option.some.injEq, exists_eq_left', exists_eq_left, V.bl.injEq, V.int.injEq, V.str.injEq, V.ref.injEq, List.cons.injEq, and_true, true_and, exists_and_left, and_assoc, List.append_nil]
        refine fld_at rfl ec L.c_Claim L.n_Claim_name rfl ⟨scal_W, ?_⟩
        rw [dec_W, decide_eq_true hend.1]
        refine iteT (fld_at rfl ec L.c_Claim L.n_Claim_ended rfl ?_)
        rw [hend.2]
        exact r _ (Same.refl _)
      · have S4 := S2.mono s4
        obtain ⟨dx4, e4⟩ := S4.ins
        obtain ⟨vs4, eh4, hv4⟩ := S4.h
        refine fld_at rfl e4 L.c_Site L.n_Site_happened rfl ⟨_, rfl, st.ev.length, .inl ⟨vs4, SqL.of eh4, (Paired.length hv4).symm⟩, _, rfl, c, a_Claim, dc, _, rfl, s4 _ _ ec, L.c_Claim, L.n_Claim_ended, Nat.le_of_ble_eq_true rfl, ?_⟩
        have he : Cl.endAt n st.ev.length cl = { cl with ended := some st.ev.length } := if_pos hend
        rw [he] at hst
        have sb : SameB c H4 (upd H4 c (.ins a_Claim dc [("kind", vW (sortN cl.kind)), ("spot", u), ("name", vW cl.name), ("made", .int (cl.made : Int)), ("ended", .int (st.ev.length : Int))])) := (SameB.refl _ _).self
        have kt := sb.kt (s4 _ _ ec) trivial
        refine ⟨⟨_, rfl⟩, ?_, fun b o nb q => ?_⟩
        · rw [← hst]
          exact S4.setCl hc sb ⟨dc, u, upd_same, (hu.mono s4).kt kt⟩
        · exact sb b o (fun z => nb (by rw [z]; simp [Pt.all, List.mem_of_getElem? hc])) (s4 _ _ (k2 b o nb q))
    · refine if_no (fun R r => ?_) fun H4 s4 => ?_
      · simp only [tSl, tPart, tNoPart, tCKw, tVals, gStar, gCons, gNil, StX.tStar, tFmtS, tFmtI, tM0, tJs, tM1, rNewStrs, tMatch, setAll, lit_to, lit_page, lit_section, lit_gone, lit_exact, lit_open, tSeq, tAsg, tIfS, tRet, tRetN, tDrop, tNext, tNever, tOr, tAnd, tNot, tB, tTest, tCB, tCons, tVar, tC, tNil, tOp, tUn, tIf, tAndV, tOrV, tNotV, tChain, tTup, tLst, tCallR, tMethN, tMakeN, tPropN, tYes, gName, cx_K, cx_P, cx_w, rI0, rI, rEq, rNe, List.getElem?_cons_zero, List.getElem?_cons_succ, List.set_cons_zero, List.set_cons_succ, Option.some.injEq, exists_eq_left', exists_eq_left, V.bl.injEq, V.int.injEq, V.str.injEq, V.ref.injEq, List.cons.injEq, and_true, true_and, exists_and_left, and_assoc, List.append_nil]
        refine fld_at rfl ec L.c_Claim L.n_Claim_name rfl ⟨scal_W, ?_⟩
        rw [dec_W]
        by_cases hn : cl.name = n
        · rw [decide_eq_true hn]
          refine iteT (fld_at rfl ec L.c_Claim L.n_Claim_ended rfl ?_)
          have ho : oN cl.ended ≠ .non := by
            cases he : cl.ended with
            | none => exact absurd ⟨hn, he⟩ hend
            | some t => exact fun z => nomatch z
          rw [decide_eq_false ho]
          exact r _ (Same.refl _)
        · rw [decide_eq_false hn]
          exact iteF (r _ (Same.refl _))
      · have he : Cl.endAt n st.ev.length cl = cl := if_neg hend
        rw [he] at hst
        refine ⟨⟨_, rfl⟩, ?_, fun b o nb q => s4 _ _ (k2 b o nb q)⟩
        rw [← hst, list_set_same hcl]
        exact S2.mono s4
  · rintro σ H2 ⟨_, S2, k2⟩
    rw [List.length_map, Paired.length S.cs, List.take_length, List.drop_length, List.append_nil] at S2
    exact k H2 k2 S2
abbrev N_Site_stand : List Str := ["self", "name", "place"]
theorem sc_Site_stand : FnScope N_Site_stand ["self", "name", "place"] (defScope s_Site_stand) := ⟨rfl, rfl, rfl, by decide +kernel, rfl, by decide +kernel, by decide +kernel⟩
theorem st_Site_stand (x0 x1 x2 : V) : L2.start N_Site_stand [x0, x1, x2] = [some x0, some x1, some x2] := rfl
def p_Site_stand : V → V → V → Hp → VK → Prop := fun v nv qv H Q => ∃ (a : Addr) (st : SS) (p : Pt) (n : Wd) (so : Bool) (q : Ad), v = .ref a ∧ nv = vW n ∧ AdAt K H qv q ∧ SiteAt K H a st p ∧ aget st.so n = some so ∧ st.sp.length ≤ 1000 ∧ st.he.length ≤ 1000 ∧ ∀ H' p', KeepF p H H' → SubF p p' H → SiteAt K H' a (st.stand so n q) p' → Q .non H'
theorem ok_Site_stand (L : Lw K mg) : FN P w K mg base 3 a_Site_stand (sp3 (p_Site_stand (K := K))) := by
  obtain ⟨fd, F⟩ := L.Site_stand
  refine fn_any F sc_Site_stand (len3 rfl) (fun _ _ _ _ _ _ us hl => match us, hl with | [_, _, _], _ => rfl) fun cdv A outer s H vs Q E hr h => ?_
  obtain ⟨_, _, qv, rfl, a, st, p, n, so, q, rfl, rfl, hq, S, hg, hl1, hl2, k⟩ := h
  have nd := sc_Site_stand.nd
  refine ⟨_, (pss_cons (ps_dput (hu_of hr) (pe_fld (pv 0) rfl) (pv 1) (pv 2) rfl) (pss_one (ps_expr (pe_bm PySem.F.plainAttrs_list PySem.F.slot_list_append PySem.F.type_list_append mt_append (pe_fld (pv 0) rfl) (pa_cons (pe_mk L.mk_Claim (ok_Claim_init L) (hr.mono (by decide)) rfl L.g_Claim (pa_cons (pe_dget (hu_of hr) (pe_fld (pv 0) rfl) (pv 1) (fun _ _ => rfl)) (pa_cons (pv 2) (pa_cons (pv 1) (pa_cons (pe_callB call_len (by rfl) L.z_len (by decide +kernel) (pa_cons (pe_fld (pv 0) rfl) pa_nil)) pa_nil))))) pa_nil))))), ?_⟩
  simp only [tSl, tPart, tNoPart, tCKw, tVals, gStar, gCons, gNil, StX.tStar, tFmtS, tFmtI, tM0, tJs, tM1, rNewStrs, tMatch, setAll, lit_to, lit_page, lit_section, lit_gone, lit_exact, lit_open, tSeq, tAsg, tIfS, tRet, tRetN, tDrop, tNext, tNever, tOr, tAnd, tNot, tB, tTest, tCB, tCons, tVar, tC, tNil, tOp, tUn, tIf, tAndV, tOrV, tNotV, tChain, tTup, tLst, tCallR, tMethN, tMakeN, tPropN, tYes, gName, cx_K, cx_P, cx_w, rI0, rI, rEq, rNe, List.getElem?_cons_zero, List.getElem?_cons_succ, List.set_cons_zero, List.set_cons_succ, Option.some.injEq, exists_eq_left', exists_eq_left, V.bl.injEq, V.int.injEq, V.str.injEq, V.ref.injEq, List.cons.injEq, and_true, true_and, exists_and_left, and_assoc, List.append_nil, st_Site_stand]
  obtain ⟨dx, e⟩ := S.ins
  obtain ⟨ks, ek, hk⟩ := S.sp
  have hkl := Paired.length hk
  refine ⟨_, rfl, fld_at rfl e L.c_Site L.n_Site_spots rfl ⟨_, rfl, p.sp, _, rfl, DPut.k (k := kW n) ek (Nat.lt_of_le_of_lt (show ks.length ≤ 1000 by omega) (by decide)), ?_⟩⟩
  have sb : SameB p.sp H (upd H p.sp (.dK (putK ks (kW n) qv))) := (SameB.refl _ _).self
  have kt := sb.kt ek trivial
  have S1 := S.setSp sb upd_same ((spAt_put hk hq).kt kt)
  have k1 : KeepF p H (upd H p.sp (.dK (putK ks (kW n) qv))) := KeepF.of (by simp [Pt.all]) sb
  have hq1 := hq.kt kt
  generalize upd H p.sp (.dK (putK ks (kW n) qv)) = H1 at *
  obtain ⟨dx1, e1⟩ := S1.ins
  simp only [tSl, tPart, tNoPart, tCKw, tVals, gStar, gCons, gNil, StX.tStar, tFmtS, tFmtI, tM0, tJs, tM1, rNewStrs, tMatch, setAll, lit_to, lit_page, lit_section, lit_gone, lit_exact, lit_open, tSeq, tAsg, tIfS, tRet, tRetN, tDrop, tNext, tNever, tOr, tAnd, tNot, tB, tTest, tCB, tCons, tVar, tC, tNil, tOp, tUn, tIf, tAndV, tOrV, tNotV, tChain, tTup, tLst, tCallR, tMethN, tMakeN, tPropN, tYes, gName, cx_K, cx_P, cx_w, rI0, rI, rEq, rNe, List.getElem?_cons_zero, List.getElem?_cons_succ, List.set_cons_zero, List.set_cons_succ, Option.some.injEq, exists_eq_left', exists_eq_left, V.bl.injEq, V.int.injEq, V.str.injEq, V.ref.injEq, List.cons.injEq, and_true, true_and, exists_and_left, and_assoc, List.append_nil]
  refine fld_at rfl e1 L.c_Site L.n_Site_held rfl ⟨.inl ⟨rfl, _, SqL.of S1.he⟩, ?_⟩
  obtain ⟨vs1, eh1, hv1⟩ := S1.h
  simp only [tSl, tPart, tNoPart, tCKw, tVals, gStar, gCons, gNil, StX.tStar, tFmtS, tFmtI, tM0, tJs, tM1, rNewStrs, tMatch, setAll, lit_to, lit_page, lit_section, lit_gone, lit_exact, lit_open, tSeq, tAsg, tIfS, tRet, tRetN, tDrop, tNext, tNever, tOr, tAnd, tNot, tB, tTest, tCB, tCons, tVar, tC, tNil, tOp, tUn, tIf, tAndV, tOrV, tNotV, tChain, tTup, tLst, tCallR, tMethN, tMakeN, tPropN, tYes, gName, cx_K, cx_P, cx_w, rI0, rI, rEq, rNe, List.getElem?_cons_zero, List.getElem?_cons_succ, List.set_cons_zero, List.set_cons_succ, Option.some.injEq, exists_eq_left', exists_eq_left, V.bl.injEq, V.int.injEq, V.str.injEq, V.ref.injEq, List.cons.injEq, and_true, true_and, exists_and_left, and_assoc, List.append_nil, tDGet]
  refine fld_at rfl e1 L.c_Site L.n_Site_sorts rfl ⟨p.so, rfl, _, dget_so S1.so hg, fld_at rfl e1 L.c_Site L.n_Site_happened rfl ⟨st.ev.length, .inl ⟨vs1, SqL.of eh1, (Paired.length hv1).symm⟩, ?_⟩⟩
  intro c dc hc hdc hne
  have s2 : Same H1 (upd (upd H1 dc (.own c)) c (.ins a_Claim dc [])) := ((Same.refl H1).nw hdc).nw ((upd_ne hne.symm).trans hc)
  refine ⟨_, _, _, _, _, rfl, c, dc, rfl, upd_same, fun H4 sb e4 => ⟨rfl, ?_⟩⟩
  have s4 : Same H1 H4 := fun b o q => sb b o (ne_of_none q hc) (s2 b o q)
  have S4 := S1.mono s4
  have hcs := Paired.length S.cs
  refine ⟨p.he, _, _, rfl, rfl, S4.he, Nat.lt_of_le_of_lt (show _ ≤ 1000 by rw [List.length_map]; omega) (by decide), ?_⟩
  have sb2 : SameB p.he H4 (upd H4 p.he (.lst (p.cs.map V.ref ++ [.ref c]))) := (SameB.refl _ _).self
  have kt2 := sb2.kt S4.he trivial
  have nc : c ∉ p.cs := fun z => by
    obtain ⟨_, _, q⟩ := S1.cl z
    rw [hc] at q
    cases q
  have nhe : c ≠ p.he := fun z => by rw [z, S1.he] at hc; cases hc
  have S5 := S4.addCl (c := c) (cl := ⟨so, q, n, st.ev.length, none⟩) sb2 (by rw [List.map_append]; exact upd_same) ⟨dc, qv, sb2 _ _ nhe e4, (hq1.mono s4).kt kt2⟩ nc
  refine k _ { p with cs := p.cs ++ [c] } (fun b o nb z => sb2 b o (fun y => nb (by rw [y]; simp [Pt.all])) (s4 _ _ (k1 b o nb z))) (fun b hb => ?_) S5
  simp only [Pt.all, List.mem_cons, List.mem_append, List.not_mem_nil, or_false] at hb ⊢
  rcases hb with h | h | h | h | h | h | h
  · exact .inl (.inl h)
  · exact .inl (.inr (.inl h))
  · exact .inl (.inr (.inr (.inl h)))
  · exact .inl (.inr (.inr (.inr (.inl h))))
  · exact .inl (.inr (.inr (.inr (.inr (.inl h)))))
  · exact .inl (.inr (.inr (.inr (.inr (.inr h)))))
  · refine .inr ?_
    rw [h]
    refine Option.eq_none_iff_forall_ne_some.mpr fun o z => ?_
    by_cases hb : c ∈ p.all
    · simp only [Pt.all, List.mem_cons] at hb
      rcases hb with hb | hb | hb | hb | hb | hb
      · rw [hb, eh1] at hc; cases hc
      · rw [hb, S1.so] at hc; cases hc
      · obtain ⟨_, q1, _⟩ := S1.sp; rw [hb, q1] at hc; cases hc
      · rw [hb, S1.ot] at hc; cases hc
      · rw [hb, S1.he] at hc; cases hc
      · exact nc hb
    · rw [k1 c o hb z] at hc
      cases hc
end
end K88
set_option maxHeartbeats 4000000
/-! What happens to a site. -/
namespace K88
open PySem PySem.Spec PyProof.Rows L2
structure Wf (st : SS) : Prop where
  okE : ∀ x ∈ st.ev, OkEv x
  okP : ∀ x ∈ st.sp, OkA x.2
  l1 : st.ev.length ≤ 500
  l2 : st.sp.length ≤ 500
  l3 : st.he.length ≤ 500
  l4 : st.so.length ≤ 40
  l5 : st.ot.length ≤ 500
def FreeAt (st : SS) (s : Bool) (p : Ad) : Prop := ∀ x ∈ st.sp, ∃ s', aget st.so x.1 = some s' ∧ (x.2 = p → s' ≠ s)
structure Day (st : SS) (e : Ev) : Prop where
  ok : OkEv e
  dy : ∀ x ∈ st.ev, x.day ≤ e.day
def Can (st : SS) : Ev → Prop
  | .pl .put d s n p => Day st (.pl .put d s n p) ∧ aget st.so n = none ∧ FreeAt st s p
  | .pl .move d s n p => Day st (.pl .move d s n p) ∧ aget st.so n = some s ∧ (∃ q, aget st.sp n = some q) ∧ FreeAt st s p
  | .pl .bring d s n p => Day st (.pl .bring d s n p) ∧ aget st.so n = some s ∧ aget st.sp n = none ∧ (∃ o, aget st.ot n = some o) ∧ FreeAt st s p
  | .merge d s n o => Day st (.merge d s n o) ∧ aget st.so n = some s ∧ aget st.so o = some s ∧ (∃ q, aget st.sp n = some q) ∧ (∃ q, aget st.sp o = some q) ∧ n ≠ o
  | .take d s n => Day st (.take d s n) ∧ aget st.so n = some s ∧ ∃ q, aget st.sp n = some q
theorem Day.all {st : SS} {e : Ev} (h : Day st e) (w : Wf st) : ∀ x ∈ st.ev, OkEv x ∧ x.day ≤ e.day := fun x hx => ⟨w.okE x hx, h.dy x hx⟩
section
variable {P : Program} {w : World} {K : PySem.W.Frag} {mg : Str → Option Value} {base : Heap}
/-- the end of an operation -/
def DoneS (K : PySem.W.Frag) (H : Hp) (a : Addr) (p : Pt) (st : SS) (Q : VK) : Prop := ∀ H' p', KeepF p H H' → SubF p p' H → SiteAt K H' a st p' → Q .non H'
abbrev N_Site_sort_of : List Str := ["self", "name"]
theorem sc_Site_sort_of : FnScope N_Site_sort_of ["self", "name"] (defScope s_Site_sort_of) := ⟨rfl, rfl, rfl, by decide +kernel, rfl, by decide +kernel, by decide +kernel⟩
theorem st_Site_sort_of (x0 x1 : V) : L2.start N_Site_sort_of [x0, x1] = [some x0, some x1] := rfl
def p_Site_sort_of : V → V → Hp → VK → Prop := fun v nv H Q => ∃ a st p n s, v = .ref a ∧ nv = vW n ∧ SiteAt K H a st p ∧ aget st.so n = some s ∧ RetV H Q (vW (sortN s))
theorem ok_Site_sort_of (L : Lw K mg) : FN P w K mg base 2 a_Site_sort_of (sp2 (p_Site_sort_of (K := K))) := by
  obtain ⟨fd, F⟩ := L.Site_sort_of
  refine fn_any F sc_Site_sort_of (len2 rfl) (fun _ _ _ _ _ _ us hl => match us, hl with | [_, _], _ => rfl) fun cdv A outer s H vs Q E hr h => ?_
  obtain ⟨_, _, rfl, a, st, p, n, so, rfl, rfl, S, hg, k⟩ := h
  have nd := sc_Site_sort_of.nd
  refine ⟨_, (pss_cons (ps_expr (pe_m (pv 0) L.c_Site L.m_Site_need_known (ok_Site_need_known L) (hr.mono (by decide)) (pa_cons (pv 1) pa_nil))) (pss_one (ps_ret (pe_dget (hu_of hr) (pe_fld (pv 0) rfl) (pv 1) (fun _ _ => rfl))))), ?_⟩
  simp only [tSl, tPart, tNoPart, tCKw, tVals, gStar, gCons, gNil, StX.tStar, tFmtS, tFmtI, tM0, tJs, tM1, rNewStrs, tMatch, setAll, lit_to, lit_page, lit_section, lit_gone, lit_exact, lit_open, tSeq, tAsg, tIfS, tRet, tRetN, tDrop, tNext, tNever, tOr, tAnd, tNot, tB, tTest, tCB, tCons, tVar, tC, tNil, tOp, tUn, tIf, tAndV, tOrV, tNotV, tChain, tTup, tLst, tCallR, tMethN, tMakeN, tPropN, tYes, gName, cx_K, cx_P, cx_w, rI0, rI, rEq, rNe, List.getElem?_cons_zero, List.getElem?_cons_succ, List.set_cons_zero, List.set_cons_succ, Option.some.injEq, exists_eq_left', exists_eq_left, V.bl.injEq, V.int.injEq, V.str.injEq, V.ref.injEq, List.cons.injEq, and_true, true_and, exists_and_left, and_assoc, List.append_nil, st_Site_sort_of, tDGet]
  obtain ⟨dx, e⟩ := S.ins
  refine ⟨dx, _, e, rfl, _, _, rfl, a, st, p, n, so, rfl, rfl, S, hg, fun H1 s1 => ?_⟩
  exact fld_at rfl (s1 _ _ e) L.c_Site L.n_Site_sorts rfl ⟨p.so, rfl, _, dget_so (s1 _ _ S.so) hg, k H1 s1⟩
abbrev N_Site_events : List Str := ["self"]
theorem sc_Site_events : FnScope N_Site_events ["self"] (defScope s_Site_events) := ⟨rfl, rfl, rfl, by decide +kernel, rfl, by decide +kernel, by decide +kernel⟩
theorem st_Site_events (x0 : V) : L2.start N_Site_events [x0] = [some x0] := rfl
def p_Site_events : V → Hp → VK → Prop := fun v H Q => ∃ a st p, v = .ref a ∧ SiteAt K H a st p ∧ ∀ (q : Addr) (vs : List V) (H' : Hp), Same H H' → H' q = some (.lst vs) → Paired (EvAt K H') vs st.ev → Q (.ref q) H'
theorem ok_Site_events (L : Lw K mg) : FN P w K mg base 1 a_Site_events (sp1 (p_Site_events (K := K))) := by
  obtain ⟨fd, F⟩ := L.Site_events
  refine fn_any F sc_Site_events (len1 rfl) (fun _ _ _ _ _ _ us hl => match us, hl with | [_], _ => rfl) fun cdv A outer s H vs Q E hr h => ?_
  obtain ⟨_, rfl, a, st, p, rfl, S, k⟩ := h
  have nd := sc_Site_events.nd
  refine ⟨_, (pss_one (ps_ret (pe_callTy call_list_of (by rfl) L.z_list (by decide +kernel) (pa_cons (pe_fld (pv 0) rfl) pa_nil)))), ?_⟩
  simp only [tSl, tPart, tNoPart, tCKw, tVals, gStar, gCons, gNil, StX.tStar, tFmtS, tFmtI, tM0, tJs, tM1, rNewStrs, tMatch, setAll, lit_to, lit_page, lit_section, lit_gone, lit_exact, lit_open, tSeq, tAsg, tIfS, tRet, tRetN, tDrop, tNext, tNever, tOr, tAnd, tNot, tB, tTest, tCB, tCons, tVar, tC, tNil, tOp, tUn, tIf, tAndV, tOrV, tNotV, tChain, tTup, tLst, tCallR, tMethN, tMakeN, tPropN, tYes, gName, cx_K, cx_P, cx_w, rI0, rI, rEq, rNe, List.getElem?_cons_zero, List.getElem?_cons_succ, List.set_cons_zero, List.set_cons_succ, Option.some.injEq, exists_eq_left', exists_eq_left, V.bl.injEq, V.int.injEq, V.str.injEq, V.ref.injEq, List.cons.injEq, and_true, true_and, exists_and_left, and_assoc, List.append_nil, st_Site_events]
  obtain ⟨dx, e⟩ := S.ins
  obtain ⟨vs, eh, hv⟩ := S.h
  refine fld_at rfl e L.c_Site L.n_Site_happened rfl ⟨p.h, rfl, vs, .inl (SqL.of eh), fun q hq => ?_⟩
  have s1 := (Same.refl H).nw (o := .lst vs) hq
  exact k q vs _ s1 upd_same (paired_imp hv fun _ _ z => z.kt s1.kt)
abbrev N_Site_claims : List Str := ["self", "claim"]
theorem sc_Site_claims : FnScope N_Site_claims ["self"] (defScope s_Site_claims) := ⟨rfl, rfl, rfl, by decide +kernel, rfl, by decide +kernel, by decide +kernel⟩
theorem st_Site_claims (x0 : V) : L2.start N_Site_claims [x0] = [some x0, none] := rfl
def p_Site_claims : V → Hp → VK → Prop := fun v H Q => ∃ a st p, v = .ref a ∧ SiteAt K H a st p ∧ st.he.length ≤ 500 ∧ ∀ (q : Addr) (H' : Hp), Same H H' → Dp K H' (.ref q) (.list (st.he.map dCl)) → Q (.ref q) H'
theorem ok_Site_claims (L : Lw K mg) : FN P w K mg base 2 a_Site_claims (sp1 (p_Site_claims (K := K))) := by
  obtain ⟨fd, F⟩ := L.Site_claims
  refine fn_any F sc_Site_claims (len1 rfl) (fun _ _ _ _ _ _ us hl => match us, hl with | [_], _ => rfl) fun cdv A outer s H vs Q E hr h => ?_
  obtain ⟨_, rfl, a, st, p, rfl, S, hl, k⟩ := h
  have nd := sc_Site_claims.nd
  refine ⟨_, (pss_one (ps_ret (pe_lc (own := [("claim", 1)]) (g := gName 1) rfl nd (pi_list (pe_fld (pv 0) rfl)) (blkOk_by (N := N_Site_claims) (sc := defScope s_Site_claims) (by decide +kernel)) (fun _ _ _ _ _ => (pg_name (i := 1) nd rfl (Or.inl rfl))) (fun _ _ _ _ _ => pts_nil) (fun _ _ _ _ _ => (pe_m0 (pv 1) L.c_Claim L.m_Claim_as_tuple (ok_Claim_as_tuple L) (hr.mono (by decide))))))), ?_⟩
  simp only [tSl, tPart, tNoPart, tCKw, tVals, gStar, gCons, gNil, StX.tStar, tFmtS, tFmtI, tM0, tJs, tM1, rNewStrs, tMatch, setAll, lit_to, lit_page, lit_section, lit_gone, lit_exact, lit_open, tSeq, tAsg, tIfS, tRet, tRetN, tDrop, tNext, tNever, tOr, tAnd, tNot, tB, tTest, tCB, tCons, tVar, tC, tNil, tOp, tUn, tIf, tAndV, tOrV, tNotV, tChain, tTup, tLst, tCallR, tMethN, tMakeN, tPropN, tYes, gName, cx_K, cx_P, cx_w, rI0, rI, rEq, rNe, List.getElem?_cons_zero, List.getElem?_cons_succ, List.set_cons_zero, List.set_cons_succ, Option.some.injEq, exists_eq_left', exists_eq_left, V.bl.injEq, V.int.injEq, V.str.injEq, V.ref.injEq, List.cons.injEq, and_true, true_and, exists_and_left, and_assoc, List.append_nil, st_Site_claims]
  obtain ⟨dx, e⟩ := S.ins
  have hcl := Paired.length S.cs
  have hcm : (p.cs.map V.ref).length = st.he.length := by rw [List.length_map]; exact hcl
  refine tLc_w (walk_list (a := p.he) (xs := p.cs.map V.ref)) (fun R r => fld_at rfl e L.c_Site L.n_Site_held rfl ⟨p.he, rfl, ⟨_, SqL.of S.he⟩, r⟩) (fun D i H' => ∃ acc, H' D = some (.lst acc) ∧ Paired (CtAt K H') acc (st.he.take i) ∧ Same H H')
    (fun D hD => ⟨[], upd_same, .nil, (Same.refl H).nw hD⟩) (fun D i H' hD _ q => let ⟨_, _, _, s⟩ := q; SqL.of (s _ _ S.he)) ?_ ?_
  · rintro D i x H1 H2 hD hi ⟨acc, eD, da, s1⟩ ⟨rfl, hx⟩
    rw [List.getElem?_map] at hx
    obtain ⟨c, hc, rfl⟩ := Option.map_eq_some_iff.mp hx
    obtain ⟨cl, hcl2, hca⟩ := paired_get S.cs hc
    have hal : acc.length = i := by
      rw [Paired.length da, List.length_take]
      omega
    refine ⟨rfl, ?_⟩
    simp only [tSl, tPart, tNoPart, tCKw, tVals, gStar, gCons, gNil, StX.tStar, tFmtS, tFmtI, tM0, tJs, tM1, rNewStrs, tMatch, setAll, lit_to, lit_page, lit_section, lit_gone, lit_exact, lit_open, tSeq, tAsg, tIfS, tRet, tRetN, tDrop, tNext, tNever, tOr, tAnd, tNot, tB, tTest, tCB, tCons, tVar, tC, tNil, tOp, tUn, tIf, tAndV, tOrV, tNotV, tChain, tTup, tLst, tCallR, tMethN, tMakeN, tPropN, tYes, gName, cx_K, cx_P, cx_w, rI0, rI, rEq, rNe, List.getElem?_cons_zero, List.getElem?_cons_succ, List.set_cons_zero, List.set_cons_succ, Option.some.injEq, exists_eq_left', exists_eq_left, V.bl.injEq, V.int.injEq, V.str.injEq, V.ref.injEq, List.cons.injEq, and_true, true_and, exists_and_left, and_assoc, List.append_nil]
    rw [if_pos trivial]
    obtain ⟨dc, u, ec, hu⟩ := hca.mono s1
    refine ⟨_, rfl, c, rfl, dc, _, ec, rfl, _, rfl, c, cl, rfl, hca.mono s1, fun v H3 s3 d3 => ?_⟩
    refine ⟨acc, s3 _ _ eD, Nat.lt_of_lt_of_le (show acc.length < 1000 by omega) (by decide), _, upd_same, ?_, (s1.trans s3).mt hD⟩
    have kt : KeepT H3 (upd H3 D (.lst (acc ++ [v]))) := (Same.refl H3).kt.mut (s3 _ _ eD) trivial
    have ec2 : st.he.take (i + 1) = st.he.take i ++ [cl] := by rw [List.take_add_one, hcl2] <;> rfl
    rw [ec2]
    exact paired_snoc (d3.kt kt) (paired_imp da fun _ _ z => z.kt (s3.kt.trans kt))
  · rintro D H1 hD ⟨acc, eD, da, s1⟩
    rw [hcm, List.take_length] at da
    exact k D H1 s1 (.lst (SqL.of eD) (cts_dp da))
def SitEq (K : PySem.W.Frag) (a b : Addr) (H : Hp) : Prop := ∃ st st' p p', SiteAt K H a st p ∧ SiteAt K H b st' p' ∧ st.ev = st'.ev ∧ ∀ x ∈ st.ev, OkEv x
abbrev N_Site_eq : List Str := ["self", "other"]
theorem sc_Site_eq : FnScope N_Site_eq ["self", "other"] (defScope s_Site_eq) := ⟨rfl, rfl, rfl, by decide +kernel, rfl, by decide +kernel, by decide +kernel⟩
theorem st_Site_eq (x0 x1 : V) : L2.start N_Site_eq [x0, x1] = [some x0, some x1] := rfl
theorem okf_Site_eq (L : Lw K mg) : ∃ fd, FnOk P w K mg base CX0 1 a_Site_eq fd ["self", "other"] (spEq (SitEq K)) ∧ Binds K fd ["self", "other"] [] := by
  obtain ⟨fd, F⟩ := L.Site_eq
  refine ⟨fd, fn_okD F sc_Site_eq (fun vs H Q E h => by obtain ⟨a, b, rfl, _⟩ := h; rfl) fun cdv A outer s H vs Q E hr h => ?_, F.bindsN fun _ _ _ _ _ _ us hl => match us, hl with | [_, _], _ => rfl⟩
  obtain ⟨a, b, rfl, ⟨st, st', p, p', S, S', he, ok⟩, k⟩ := h
  have nd := sc_Site_eq.nd
  refine ⟨_, (pss_one (ps_ret (pe_and (pe_callB call_isi (by rfl) L.z_isinstance (by decide +kernel) (pa_cons (pv 1) (pa_cons (pe_glob (v := .ref a_Site) (by rfl) L.g_Site rfl) pa_nil))) (pe_one (pe_cmpR (op_eqD hr.units) (pe_fld (pv 0) rfl) (pe_fld (pv 1) rfl) (nomark _)))))), ?_⟩
  simp only [tSl, tPart, tNoPart, tCKw, tVals, gStar, gCons, gNil, StX.tStar, tFmtS, tFmtI, tM0, tJs, tM1, rNewStrs, tMatch, setAll, lit_to, lit_page, lit_section, lit_gone, lit_exact, lit_open, tSeq, tAsg, tIfS, tRet, tRetN, tDrop, tNext, tNever, tOr, tAnd, tNot, tB, tTest, tCB, tCons, tVar, tC, tNil, tOp, tUn, tIf, tAndV, tOrV, tNotV, tChain, tTup, tLst, tCallR, tMethN, tMakeN, tPropN, tYes, gName, cx_K, cx_P, cx_w, rI0, rI, rEq, rNe, List.getElem?_cons_zero, List.getElem?_cons_succ, List.set_cons_zero, List.set_cons_succ, Option.some.injEq, exists_eq_left', exists_eq_left, V.bl.injEq, V.int.injEq, V.str.injEq, V.ref.injEq, List.cons.injEq, and_true, true_and, exists_and_left, and_assoc, List.append_nil, st_Site_eq]
  obtain ⟨dx, e⟩ := S.ins
  obtain ⟨dx', e'⟩ := S'.ins
  obtain ⟨vs, eh, hv⟩ := S.h
  obtain ⟨vs', eh', hv'⟩ := S'.h
  refine isi_own L.i_Site L.c_Site e' ⟨true, rfl, iteT ?_⟩
  have sh := shaped_evs ok
  refine fld_at rfl e L.c_Site L.n_Site_happened rfl (fld_at rfl e' L.c_Site L.n_Site_happened rfl ⟨.list (st.ev.map dEv), .list (st'.ev.map dEv), .lst (SqL.of eh) (evs_dp hv), .lst (SqL.of eh') (evs_dp hv'), sh, by rw [← he]; exact sh, ?_⟩)
  rw [← he, SeqAt.eqv_refl _ (SeqAt.canLay_of_shaped sh)]
  exact k H Ext.rfl'
abbrev N_Site_put : List Str := ["self", "day", "sort", "name", "place"]
theorem sc_Site_put : FnScope N_Site_put ["self", "day", "sort", "name", "place"] (defScope s_Site_put) := ⟨rfl, rfl, rfl, by decide +kernel, rfl, by decide +kernel, by decide +kernel⟩
theorem st_Site_put (x0 x1 x2 x3 x4 : V) : L2.start N_Site_put [x0, x1, x2, x3, x4] = [some x0, some x1, some x2, some x3, some x4] := rfl
def p_Site_put : V → V → V → V → V → Hp → VK → Prop := fun v dv sv nv qv H Q => ∃ (a : Addr) (st : SS) (p : Pt) (d : Nat) (s : Bool) (n : Wd) (q : Ad), v = .ref a ∧ dv = .int (d : Int) ∧ sv = vW (sortN s) ∧ nv = vW n ∧ AdAt K H qv q ∧ SiteAt K H a st p ∧ Wf st ∧ Can st (.pl .put d s n q) ∧ DoneS K H a p (st.doEv (.pl .put d s n q)) Q
theorem ok_Site_put (L : Lw K mg) : FN P w K mg base 4 a_Site_put (sp5 (p_Site_put (K := K))) := by
  obtain ⟨fd, F⟩ := L.Site_put
  refine fn_any F sc_Site_put (len5 rfl) (fun _ _ _ _ _ _ us hl => match us, hl with | [_, _, _, _, _], _ => rfl) fun cdv A outer s H vs Q E hr h => ?_
  obtain ⟨_, _, _, _, qv, rfl, a, st, p, d, so, n, q, rfl, rfl, rfl, rfl, hq, S, W, ⟨dy, hn, fr⟩, k⟩ := h
  have nd := sc_Site_put.nd
  refine ⟨_, (pss_cons (ps_expr (pe_m (pv 0) L.c_Site L.m_Site_need_day (ok_Site_need_day L) (hr.mono (by decide)) (pa_cons (pv 1) pa_nil))) (pss_cons (ps_if (pt_not (pt_val (pe_g (ok_is_word L) (hr.mono (by decide)) rfl L.g_is_word L.is_word.kp (pa_cons (pv 3) pa_nil)))) (pss_one ps_never) pss_nil) (pss_cons (ps_if (pt_not (pt_val (pe_g (ok_is_place L) (hr.mono (by decide)) rfl L.g_is_place L.is_place.kp (pa_cons (pv 4) pa_nil)))) (pss_one ps_never) pss_nil) (pss_cons (ps_if (pt_cmp (pc_din (hu_of hr) (pv 3) (pe_fld (pv 0) rfl))) (pss_one ps_never) pss_nil) (pss_cons (ps_expr (pe_m (pv 0) L.c_Site L.m_Site_need_free (ok_Site_need_free L) (hr.mono (by decide)) (pa_cons (pv 2) (pa_cons (pv 4) pa_nil)))) (pss_cons (ps_expr (pe_m (pv 0) L.c_Site L.m_Site_note (ok_Site_note L) (hr.mono (by decide)) (pa_cons (pv 1) (pa_cons pe_str (pa_cons (pv 2) (pa_cons (pv 3) (pa_cons (pv 4) pa_nil))))))) (pss_cons (ps_dput (hu_of hr) (pe_fld (pv 0) rfl) (pv 3) (pv 2) rfl) (pss_one (ps_expr (pe_m (pv 0) L.c_Site L.m_Site_stand (ok_Site_stand L) (hr.mono (by decide)) (pa_cons (pv 3) (pa_cons (pv 4) pa_nil)))))))))))), ?_⟩
  simp only [tSl, tPart, tNoPart, tCKw, tVals, gStar, gCons, gNil, StX.tStar, tFmtS, tFmtI, tM0, tJs, tM1, rNewStrs, tMatch, setAll, lit_to, lit_page, lit_section, lit_gone, lit_exact, lit_open, tSeq, tAsg, tIfS, tRet, tRetN, tDrop, tNext, tNever, tOr, tAnd, tNot, tB, tTest, tCB, tCons, tVar, tC, tNil, tOp, tUn, tIf, tAndV, tOrV, tNotV, tChain, tTup, tLst, tCallR, tMethN, tMakeN, tPropN, tYes, gName, cx_K, cx_P, cx_w, rI0, rI, rEq, rNe, List.getElem?_cons_zero, List.getElem?_cons_succ, List.set_cons_zero, List.set_cons_succ, Option.some.injEq, exists_eq_left', exists_eq_left, V.bl.injEq, V.int.injEq, V.str.injEq, V.ref.injEq, List.cons.injEq, and_true, true_and, exists_and_left, and_assoc, List.append_nil, st_Site_put, lit_put]
  obtain ⟨dx, e⟩ := S.ins
  have okn := dy.ok.2.1
  have okq := dy.ok.2.2
  refine ⟨dx, _, e, rfl, _, _, rfl, a, st, p, d, rfl, rfl, S, dy.ok.1, dy.all W, fun H1 s1 => ?_⟩
  refine ⟨_, rfl, n, rfl, okn, fun H2 s2 => ⟨true, rfl, iteF ?_⟩⟩
  have s12 := s1.trans s2
  refine ⟨_, rfl, q, hq.mono s12, okq, fun H3 s3 => ⟨true, rfl, iteF ?_⟩⟩
  have s13 := s12.trans s3
  refine ⟨_, rfl, fld_at rfl (s13 _ _ e) L.c_Site L.n_Site_sorts rfl ⟨p.so, _, rfl, dget_so0 (s13 _ _ S.so) hn, false, rfl, iteF ?_⟩⟩
  have hl2 := W.l2
  have hl1 := W.l1
  have hl3 := W.l3
  refine ⟨dx, _, s13 _ _ e, rfl, _, _, _, rfl, a, st, p, so, q, rfl, rfl, hq.mono s13, okq, S.mono s13, W.okP, fr, by omega, fun H4 s4 => ?_⟩
  have s14 := s13.trans s4
  have S4 := S.mono s14
  have hq4 := hq.mono s14
  refine ⟨dx, _, s14 _ _ e, rfl, a, st, p, .pl .put d so n q, _, rfl, S4, by omega, Nat.le_of_ble_eq_true rfl, (fun t ht => ⟨t, qv, rfl, SqT.of upd_same, hq4.mono ((Same.refl H4).nw ht)⟩), fun H5 k5 S5 => ?_⟩
  have hq5 := hq4.kt (S4.kt k5)
  obtain ⟨dx5, e5⟩ := S5.ins
  have hso : (soK st.so).length ≤ 40 := by rw [soK, List.length_map]; exact W.l4
  have e5so : H5 p.so = some (.dK (soK st.so)) := S5.so
  refine ⟨_, rfl, fld_at rfl e5 L.c_Site L.n_Site_sorts rfl ⟨_, rfl, p.so, _, rfl, DPut.k (k := kW n) e5so (Nat.lt_of_le_of_lt hso (by decide)), ?_⟩⟩
  have sb : SameB p.so H5 (upd H5 p.so (.dK (putK (soK st.so) (kW n) (vW (sortN so))))) := (SameB.refl _ _).self
  have S6 := S5.setSo (l := aput st.so n so) sb (by rw [← soK_put]; exact upd_same)
  have k6 : KeepF p H5 (upd H5 p.so (.dK (putK (soK st.so) (kW n) (vW (sortN so))))) := KeepF.of (by simp [Pt.all]) sb
  have hq6 := hq5.kt (S5.kt k6)
  generalize upd H5 p.so (.dK (putK (soK st.so) (kW n) (vW (sortN so)))) = H6 at *
  obtain ⟨dx6, e6⟩ := S6.ins
  simp only [tSl, tPart, tNoPart, tCKw, tVals, gStar, gCons, gNil, StX.tStar, tFmtS, tFmtI, tM0, tJs, tM1, rNewStrs, tMatch, setAll, lit_to, lit_page, lit_section, lit_gone, lit_exact, lit_open, tSeq, tAsg, tIfS, tRet, tRetN, tDrop, tNext, tNever, tOr, tAnd, tNot, tB, tTest, tCB, tCons, tVar, tC, tNil, tOp, tUn, tIf, tAndV, tOrV, tNotV, tChain, tTup, tLst, tCallR, tMethN, tMakeN, tPropN, tYes, gName, cx_K, cx_P, cx_w, rI0, rI, rEq, rNe, List.getElem?_cons_zero, List.getElem?_cons_succ, List.set_cons_zero, List.set_cons_succ, Option.some.injEq, exists_eq_left', exists_eq_left, V.bl.injEq, V.int.injEq, V.str.injEq, V.ref.injEq, List.cons.injEq, and_true, true_and, exists_and_left, and_assoc, List.append_nil]
  refine ⟨dx6, _, e6, rfl, _, _, _, rfl, a, _, p, n, so, q, rfl, rfl, hq6, S6, aget_put n so st.so, by show st.sp.length ≤ 1000; omega, by show st.he.length ≤ 1000; omega, fun H7 p' k7 u7 S7 => k H7 p' ?_ ?_ S7⟩
  · exact fun b o nb z => k7 b o nb (k6 b o nb (k5 b o nb (s14 b o z)))
  · exact (SubF.refl p H).trans (fun b o nb z => k6 b o nb (k5 b o nb (s14 b o z))) u7
end
end K88
set_option maxHeartbeats 4000000
/-! More of what happens to a site. -/
namespace K88
open PySem PySem.Spec PyProof.Rows L2
section
variable {P : Program} {w : World} {K : PySem.W.Frag} {mg : Str → Option Value} {base : Heap}
def p_put2 (K : PySem.W.Frag) (s : Bool) : V → V → V → V → Hp → VK → Prop := fun v dv nv qv H Q => ∃ (a : Addr) (st : SS) (p : Pt) (d : Nat) (n : Wd) (q : Ad), v = .ref a ∧ dv = .int (d : Int) ∧ nv = vW n ∧ AdAt K H qv q ∧ SiteAt K H a st p ∧ Wf st ∧ Can st (.pl .put d s n q) ∧ DoneS K H a p (st.doEv (.pl .put d s n q)) Q
abbrev N_Site_put_page : List Str := ["self", "day", "name", "place"]
theorem sc_Site_put_page : FnScope N_Site_put_page ["self", "day", "name", "place"] (defScope s_Site_put_page) := ⟨rfl, rfl, rfl, by decide +kernel, rfl, by decide +kernel, by decide +kernel⟩
theorem st_Site_put_page (x0 x1 x2 x3 : V) : L2.start N_Site_put_page [x0, x1, x2, x3] = [some x0, some x1, some x2, some x3] := rfl
theorem ok_Site_put_page (L : Lw K mg) : FN P w K mg base 5 a_Site_put_page (sp4 (p_put2 K false)) := by
  obtain ⟨fd, F⟩ := L.Site_put_page
  refine fn_any F sc_Site_put_page (len4 rfl) (fun _ _ _ _ _ _ us hl => match us, hl with | [_, _, _, _], _ => rfl) fun cdv A outer s H vs Q E hr h => ?_
  obtain ⟨_, _, _, qv, rfl, a, st, p, d, n, q, rfl, rfl, rfl, hq, S, W, C, k⟩ := h
  have nd := sc_Site_put_page.nd
  refine ⟨_, (pss_one (ps_expr (pe_m (pv 0) L.c_Site L.m_Site_put (ok_Site_put L) (hr.mono (by decide)) (pa_cons (pv 1) (pa_cons (pe_gs L.s_PAGE rfl) (pa_cons (pv 2) (pa_cons (pv 3) pa_nil))))))), ?_⟩
  simp only [tSl, tPart, tNoPart, tCKw, tVals, gStar, gCons, gNil, StX.tStar, tFmtS, tFmtI, tM0, tJs, tM1, rNewStrs, tMatch, setAll, lit_to, lit_page, lit_section, lit_gone, lit_exact, lit_open, tSeq, tAsg, tIfS, tRet, tRetN, tDrop, tNext, tNever, tOr, tAnd, tNot, tB, tTest, tCB, tCons, tVar, tC, tNil, tOp, tUn, tIf, tAndV, tOrV, tNotV, tChain, tTup, tLst, tCallR, tMethN, tMakeN, tPropN, tYes, gName, cx_K, cx_P, cx_w, rI0, rI, rEq, rNe, List.getElem?_cons_zero, List.getElem?_cons_succ, List.set_cons_zero, List.set_cons_succ, Option.some.injEq, exists_eq_left', exists_eq_left, V.bl.injEq, V.int.injEq, V.str.injEq, V.ref.injEq, List.cons.injEq, and_true, true_and, exists_and_left, and_assoc, List.append_nil, st_Site_put_page]
  obtain ⟨dx, e⟩ := S.ins
  exact ⟨dx, _, e, rfl, _, _, _, _, _, rfl, a, st, p, d, false, n, q, rfl, rfl, rfl, rfl, hq, S, W, C, k⟩
abbrev N_Site_put_section : List Str := ["self", "day", "name", "place"]
theorem sc_Site_put_section : FnScope N_Site_put_section ["self", "day", "name", "place"] (defScope s_Site_put_section) := ⟨rfl, rfl, rfl, by decide +kernel, rfl, by decide +kernel, by decide +kernel⟩
theorem st_Site_put_section (x0 x1 x2 x3 : V) : L2.start N_Site_put_section [x0, x1, x2, x3] = [some x0, some x1, some x2, some x3] := rfl
theorem ok_Site_put_section (L : Lw K mg) : FN P w K mg base 5 a_Site_put_section (sp4 (p_put2 K true)) := by
  obtain ⟨fd, F⟩ := L.Site_put_section
  refine fn_any F sc_Site_put_section (len4 rfl) (fun _ _ _ _ _ _ us hl => match us, hl with | [_, _, _, _], _ => rfl) fun cdv A outer s H vs Q E hr h => ?_
  obtain ⟨_, _, _, qv, rfl, a, st, p, d, n, q, rfl, rfl, rfl, hq, S, W, C, k⟩ := h
  have nd := sc_Site_put_section.nd
  refine ⟨_, (pss_one (ps_expr (pe_m (pv 0) L.c_Site L.m_Site_put (ok_Site_put L) (hr.mono (by decide)) (pa_cons (pv 1) (pa_cons (pe_gs L.s_SECTION rfl) (pa_cons (pv 2) (pa_cons (pv 3) pa_nil))))))), ?_⟩
  simp only [tSl, tPart, tNoPart, tCKw, tVals, gStar, gCons, gNil, StX.tStar, tFmtS, tFmtI, tM0, tJs, tM1, rNewStrs, tMatch, setAll, lit_to, lit_page, lit_section, lit_gone, lit_exact, lit_open, tSeq, tAsg, tIfS, tRet, tRetN, tDrop, tNext, tNever, tOr, tAnd, tNot, tB, tTest, tCB, tCons, tVar, tC, tNil, tOp, tUn, tIf, tAndV, tOrV, tNotV, tChain, tTup, tLst, tCallR, tMethN, tMakeN, tPropN, tYes, gName, cx_K, cx_P, cx_w, rI0, rI, rEq, rNe, List.getElem?_cons_zero, List.getElem?_cons_succ, List.set_cons_zero, List.set_cons_succ, Option.some.injEq, exists_eq_left', exists_eq_left, V.bl.injEq, V.int.injEq, V.str.injEq, V.ref.injEq, List.cons.injEq, and_true, true_and, exists_and_left, and_assoc, List.append_nil, st_Site_put_section]
  obtain ⟨dx, e⟩ := S.ins
  exact ⟨dx, _, e, rfl, _, _, _, _, _, rfl, a, st, p, d, true, n, q, rfl, rfl, rfl, rfl, hq, S, W, C, k⟩
abbrev N_Site_need_place : List Str := ["self", "name", "place"]
theorem sc_Site_need_place : FnScope N_Site_need_place ["self", "name", "place"] (defScope s_Site_need_place) := ⟨rfl, rfl, rfl, by decide +kernel, rfl, by decide +kernel, by decide +kernel⟩
theorem st_Site_need_place (x0 x1 x2 : V) : L2.start N_Site_need_place [x0, x1, x2] = [some x0, some x1, some x2] := rfl
def p_Site_need_place : V → V → V → Hp → VK → Prop := fun v nv qv H Q => ∃ a st p n s q, v = .ref a ∧ nv = vW n ∧ AdAt K H qv q ∧ OkA q ∧ SiteAt K H a st p ∧ Wf st ∧ aget st.so n = some s ∧ FreeAt st s q ∧ RetV H Q .non
theorem ok_Site_need_place (L : Lw K mg) : FN P w K mg base 4 a_Site_need_place (sp3 (p_Site_need_place (K := K))) := by
  obtain ⟨fd, F⟩ := L.Site_need_place
  refine fn_any F sc_Site_need_place (len3 rfl) (fun _ _ _ _ _ _ us hl => match us, hl with | [_, _, _], _ => rfl) fun cdv A outer s H vs Q E hr h => ?_
  obtain ⟨_, _, qv, rfl, a, st, p, n, so, q, rfl, rfl, hq, okq, S, W, hg, fr, k⟩ := h
  have nd := sc_Site_need_place.nd
  refine ⟨_, (pss_cons (ps_if (pt_not (pt_val (pe_g (ok_is_place L) (hr.mono (by decide)) rfl L.g_is_place L.is_place.kp (pa_cons (pv 2) pa_nil)))) (pss_one ps_never) pss_nil) (pss_one (ps_expr (pe_m (pv 0) L.c_Site L.m_Site_need_free (ok_Site_need_free L) (hr.mono (by decide)) (pa_cons (pe_dget (hu_of hr) (pe_fld (pv 0) rfl) (pv 1) (fun _ _ => rfl)) (pa_cons (pv 2) pa_nil)))))), ?_⟩
  simp only [tSl, tPart, tNoPart, tCKw, tVals, gStar, gCons, gNil, StX.tStar, tFmtS, tFmtI, tM0, tJs, tM1, rNewStrs, tMatch, setAll, lit_to, lit_page, lit_section, lit_gone, lit_exact, lit_open, tSeq, tAsg, tIfS, tRet, tRetN, tDrop, tNext, tNever, tOr, tAnd, tNot, tB, tTest, tCB, tCons, tVar, tC, tNil, tOp, tUn, tIf, tAndV, tOrV, tNotV, tChain, tTup, tLst, tCallR, tMethN, tMakeN, tPropN, tYes, gName, cx_K, cx_P, cx_w, rI0, rI, rEq, rNe, List.getElem?_cons_zero, List.getElem?_cons_succ, List.set_cons_zero, List.set_cons_succ, Option.some.injEq, exists_eq_left', exists_eq_left, V.bl.injEq, V.int.injEq, V.str.injEq, V.ref.injEq, List.cons.injEq, and_true, true_and, exists_and_left, and_assoc, List.append_nil, st_Site_need_place, tDGet]
  obtain ⟨dx, e⟩ := S.ins
  have hl2 := W.l2
  refine ⟨_, rfl, q, hq, okq, fun H1 s1 => ⟨true, rfl, iteF ?_⟩⟩
  refine ⟨dx, _, s1 _ _ e, rfl, ?_⟩
  refine fld_at rfl (s1 _ _ e) L.c_Site L.n_Site_sorts rfl ⟨p.so, rfl, _, dget_so (s1 _ _ S.so) hg, ?_⟩
  exact ⟨_, _, _, rfl, a, st, p, so, q, rfl, rfl, hq.mono s1, okq, S.mono s1, W.okP, fr, by omega, fun H2 s2 => k H2 (s1.trans s2)⟩
def p_opl (K : PySem.W.Frag) (vb : Vb) : V → V → V → V → Hp → VK → Prop := fun v dv nv qv H Q => ∃ (a : Addr) (st : SS) (p : Pt) (d : Nat) (s : Bool) (n : Wd) (q : Ad), v = .ref a ∧ dv = .int (d : Int) ∧ nv = vW n ∧ AdAt K H qv q ∧ SiteAt K H a st p ∧ Wf st ∧ Can st (.pl vb d s n q) ∧ DoneS K H a p (st.doEv (.pl vb d s n q)) Q
abbrev N_Site_move : List Str := ["self", "day", "name", "place"]
theorem sc_Site_move : FnScope N_Site_move ["self", "day", "name", "place"] (defScope s_Site_move) := ⟨rfl, rfl, rfl, by decide +kernel, rfl, by decide +kernel, by decide +kernel⟩
theorem st_Site_move (x0 x1 x2 x3 : V) : L2.start N_Site_move [x0, x1, x2, x3] = [some x0, some x1, some x2, some x3] := rfl
theorem ok_Site_move (L : Lw K mg) : FN P w K mg base 5 a_Site_move (sp4 (p_opl K .move)) := by
  obtain ⟨fd, F⟩ := L.Site_move
  refine fn_any F sc_Site_move (len4 rfl) (fun _ _ _ _ _ _ us hl => match us, hl with | [_, _, _, _], _ => rfl) fun cdv A outer s H vs Q E hr h => ?_
  obtain ⟨_, _, _, qv, rfl, a, st, p, d, so, n, q, rfl, rfl, rfl, hq, S, W, ⟨dy, hg, ⟨q0, hs⟩, fr⟩, k⟩ := h
  have nd := sc_Site_move.nd
  refine ⟨_, (pss_cons (ps_expr (pe_m (pv 0) L.c_Site L.m_Site_need_day (ok_Site_need_day L) (hr.mono (by decide)) (pa_cons (pv 1) pa_nil))) (pss_cons (ps_expr (pe_m (pv 0) L.c_Site L.m_Site_need_known (ok_Site_need_known L) (hr.mono (by decide)) (pa_cons (pv 2) pa_nil))) (pss_cons (ps_expr (pe_m (pv 0) L.c_Site L.m_Site_need_standing (ok_Site_need_standing L) (hr.mono (by decide)) (pa_cons (pv 2) pa_nil))) (pss_cons (ps_expr (pe_m (pv 0) L.c_Site L.m_Site_need_place (ok_Site_need_place L) (hr.mono (by decide)) (pa_cons (pv 2) (pa_cons (pv 3) pa_nil)))) (pss_cons (ps_expr (pe_m (pv 0) L.c_Site L.m_Site_note (ok_Site_note L) (hr.mono (by decide)) (pa_cons (pv 1) (pa_cons pe_str (pa_cons (pe_dget (hu_of hr) (pe_fld (pv 0) rfl) (pv 2) (fun _ _ => rfl)) (pa_cons (pv 2) (pa_cons (pv 3) pa_nil))))))) (pss_cons (ps_expr (pe_m (pv 0) L.c_Site L.m_Site_end_claim (ok_Site_end_claim L) (hr.mono (by decide)) (pa_cons (pv 2) pa_nil))) (pss_one (ps_expr (pe_m (pv 0) L.c_Site L.m_Site_stand (ok_Site_stand L) (hr.mono (by decide)) (pa_cons (pv 2) (pa_cons (pv 3) pa_nil))))))))))), ?_⟩
  simp only [tSl, tPart, tNoPart, tCKw, tVals, gStar, gCons, gNil, StX.tStar, tFmtS, tFmtI, tM0, tJs, tM1, rNewStrs, tMatch, setAll, lit_to, lit_page, lit_section, lit_gone, lit_exact, lit_open, tSeq, tAsg, tIfS, tRet, tRetN, tDrop, tNext, tNever, tOr, tAnd, tNot, tB, tTest, tCB, tCons, tVar, tC, tNil, tOp, tUn, tIf, tAndV, tOrV, tNotV, tChain, tTup, tLst, tCallR, tMethN, tMakeN, tPropN, tYes, gName, cx_K, cx_P, cx_w, rI0, rI, rEq, rNe, List.getElem?_cons_zero, List.getElem?_cons_succ, List.set_cons_zero, List.set_cons_succ, Option.some.injEq, exists_eq_left', exists_eq_left, V.bl.injEq, V.int.injEq, V.str.injEq, V.ref.injEq, List.cons.injEq, and_true, true_and, exists_and_left, and_assoc, List.append_nil, st_Site_move, lit_move, tDGet]
  obtain ⟨dx, e⟩ := S.ins
  have okq := dy.ok.2.2
  have hl1 := W.l1
  have hl2 := W.l2
  have hl3 := W.l3
  refine ⟨dx, _, e, rfl, _, _, rfl, a, st, p, d, rfl, rfl, S, dy.ok.1, dy.all W, fun H1 s1 => ?_⟩
  refine ⟨dx, _, s1 _ _ e, rfl, _, _, rfl, a, st, p, n, so, rfl, rfl, S.mono s1, hg, fun H2 s2 => ?_⟩
  have s12 := s1.trans s2
  refine ⟨dx, _, s12 _ _ e, rfl, _, _, rfl, a, st, p, n, q0, rfl, rfl, S.mono s12, hs, fun H3 s3 => ?_⟩
  have s13 := s12.trans s3
  refine ⟨dx, _, s13 _ _ e, rfl, _, _, _, rfl, a, st, p, n, so, q, rfl, rfl, hq.mono s13, okq, S.mono s13, W, hg, fr, fun H4 s4 => ?_⟩
  have s14 := s13.trans s4
  have S4 := S.mono s14
  have hq4 := hq.mono s14
  refine ⟨dx, _, s14 _ _ e, rfl, fld_at rfl (s14 _ _ e) L.c_Site L.n_Site_sorts rfl ⟨p.so, rfl, _, dget_so (s14 _ _ S.so) hg, ?_⟩⟩
  refine ⟨a, st, p, .pl .move d so n q, _, rfl, S4, by omega, Nat.le_of_ble_eq_true rfl, (fun t ht => ⟨t, qv, rfl, SqT.of upd_same, hq4.mono ((Same.refl H4).nw ht)⟩), fun H5 k5 S5 => ?_⟩
  have hq5 := hq4.kt (S4.kt k5)
  obtain ⟨dx5, e5⟩ := S5.ins
  refine ⟨dx5, _, e5, rfl, _, _, rfl, a, _, p, n, q0, rfl, rfl, S5, hs, fun H6 k6 S6 => ?_⟩
  have hq6 := hq5.kt (S5.kt k6)
  obtain ⟨dx6, e6⟩ := S6.ins
  have hl4 : (adel st.sp n).length ≤ 500 := Nat.le_trans (List.length_filter_le _ _) hl2
  refine ⟨dx6, _, e6, rfl, _, _, _, rfl, a, _, p, n, so, q, rfl, rfl, hq6, S6, hg, by show (adel st.sp n).length ≤ 1000; omega, by show (st.he.map _).length ≤ 1000; rw [List.length_map]; omega, fun H7 p' k7 u7 S7 => k H7 p' ?_ ?_ S7⟩
  · exact fun b o nb z => k7 b o nb (k6 b o nb (k5 b o nb (s14 b o z)))
  · exact (SubF.refl p H).trans (fun b o nb z => k6 b o nb (k5 b o nb (s14 b o z))) u7
abbrev N_Site_bring : List Str := ["self", "day", "name", "place"]
theorem sc_Site_bring : FnScope N_Site_bring ["self", "day", "name", "place"] (defScope s_Site_bring) := ⟨rfl, rfl, rfl, by decide +kernel, rfl, by decide +kernel, by decide +kernel⟩
theorem st_Site_bring (x0 x1 x2 x3 : V) : L2.start N_Site_bring [x0, x1, x2, x3] = [some x0, some x1, some x2, some x3] := rfl
theorem ok_Site_bring (L : Lw K mg) : FN P w K mg base 5 a_Site_bring (sp4 (p_opl K .bring)) := by
  obtain ⟨fd, F⟩ := L.Site_bring
  refine fn_any F sc_Site_bring (len4 rfl) (fun _ _ _ _ _ _ us hl => match us, hl with | [_, _, _, _], _ => rfl) fun cdv A outer s H vs Q E hr h => ?_
  obtain ⟨_, _, _, qv, rfl, a, st, p, d, so, n, q, rfl, rfl, rfl, hq, S, W, ⟨dy, hg, hs, ⟨o0, ho⟩, fr⟩, k⟩ := h
  have nd := sc_Site_bring.nd
  refine ⟨_, (pss_cons (ps_expr (pe_m (pv 0) L.c_Site L.m_Site_need_day (ok_Site_need_day L) (hr.mono (by decide)) (pa_cons (pv 1) pa_nil))) (pss_cons (ps_expr (pe_m (pv 0) L.c_Site L.m_Site_need_known (ok_Site_need_known L) (hr.mono (by decide)) (pa_cons (pv 2) pa_nil))) (pss_cons (ps_if (pt_cmp (pc_din (hu_of hr) (pv 2) (pe_fld (pv 0) rfl))) (pss_one ps_never) pss_nil) (pss_cons (ps_expr (pe_m (pv 0) L.c_Site L.m_Site_need_place (ok_Site_need_place L) (hr.mono (by decide)) (pa_cons (pv 2) (pa_cons (pv 3) pa_nil)))) (pss_cons (ps_expr (pe_m (pv 0) L.c_Site L.m_Site_note (ok_Site_note L) (hr.mono (by decide)) (pa_cons (pv 1) (pa_cons pe_str (pa_cons (pe_dget (hu_of hr) (pe_fld (pv 0) rfl) (pv 2) (fun _ _ => rfl)) (pa_cons (pv 2) (pa_cons (pv 3) pa_nil))))))) (pss_cons (ps_expr (pe_dpop1 (pe_fld (pv 0) rfl) (pv 2) ⟨rfl, rfl, rfl, rfl⟩)) (pss_one (ps_expr (pe_m (pv 0) L.c_Site L.m_Site_stand (ok_Site_stand L) (hr.mono (by decide)) (pa_cons (pv 2) (pa_cons (pv 3) pa_nil))))))))))), ?_⟩
  simp only [tSl, tPart, tNoPart, tCKw, tVals, gStar, gCons, gNil, StX.tStar, tFmtS, tFmtI, tM0, tJs, tM1, rNewStrs, tMatch, setAll, lit_to, lit_page, lit_section, lit_gone, lit_exact, lit_open, tSeq, tAsg, tIfS, tRet, tRetN, tDrop, tNext, tNever, tOr, tAnd, tNot, tB, tTest, tCB, tCons, tVar, tC, tNil, tOp, tUn, tIf, tAndV, tOrV, tNotV, tChain, tTup, tLst, tCallR, tMethN, tMakeN, tPropN, tYes, gName, cx_K, cx_P, cx_w, rI0, rI, rEq, rNe, List.getElem?_cons_zero, List.getElem?_cons_succ, List.set_cons_zero, List.set_cons_succ, Option.some.injEq, exists_eq_left', exists_eq_left, V.bl.injEq, V.int.injEq, V.str.injEq, V.ref.injEq, List.cons.injEq, and_true, true_and, exists_and_left, and_assoc, List.append_nil, st_Site_bring, lit_bring, tDGet]
  obtain ⟨dx, e⟩ := S.ins
  have okq := dy.ok.2.2
  have hl1 := W.l1
  have hl2 := W.l2
  have hl3 := W.l3
  refine ⟨dx, _, e, rfl, _, _, rfl, a, st, p, d, rfl, rfl, S, dy.ok.1, dy.all W, fun H1 s1 => ?_⟩
  refine ⟨dx, _, s1 _ _ e, rfl, _, _, rfl, a, st, p, n, so, rfl, rfl, S.mono s1, hg, fun H2 s2 => ?_⟩
  have s12 := s1.trans s2
  have S2 := S.mono s12
  obtain ⟨ks, ek, hk⟩ := S2.sp
  obtain ⟨o, hdg, hoi⟩ := dget_sp (n := n) ek hk
  have ho0 : o = none := by
    rw [hs] at hoi
    cases o with
    | none => rfl
    | some _ => cases hoi
  subst ho0
  refine ⟨_, rfl, fld_at rfl (s12 _ _ e) L.c_Site L.n_Site_spots rfl ⟨p.sp, _, rfl, hdg, false, rfl, iteF ?_⟩⟩
  refine ⟨dx, _, s12 _ _ e, rfl, _, _, _, rfl, a, st, p, n, so, q, rfl, rfl, hq.mono s12, okq, S2, W, hg, fr, fun H4 s4 => ?_⟩
  have s14 := s12.trans s4
  have S4 := S.mono s14
  have hq4 := hq.mono s14
  refine ⟨dx, _, s14 _ _ e, rfl, fld_at rfl (s14 _ _ e) L.c_Site L.n_Site_sorts rfl ⟨p.so, rfl, _, dget_so (s14 _ _ S.so) hg, ?_⟩⟩
  refine ⟨a, st, p, .pl .bring d so n q, _, rfl, S4, by omega, Nat.le_of_ble_eq_true rfl, (fun t ht => ⟨t, qv, rfl, SqT.of upd_same, hq4.mono ((Same.refl H4).nw ht)⟩), fun H5 k5 S5 => ?_⟩
  have hq5 := hq4.kt (S4.kt k5)
  obtain ⟨dx5, e5⟩ := S5.ins
  have e5ot : H5 p.ot = some (.dK (otK st.ot)) := S5.ot
  have hv : valV (otK st.ot) (kW n) = some (oW o0) := by
    show valV (st.ot.map fun x => (kW x.1, oW x.2)) (kW n) = _
    rw [valV_map, ho] <;> rfl
  refine fld_at rfl e5 L.c_Site L.n_Site_others rfl ⟨p.ot, rfl, .inl ⟨_, .inl e5ot⟩, _, rfl, _, kW n, _, e5ot, rfl, hv, ?_⟩
  have sb : SameB p.ot H5 (upd H5 p.ot (.dK (dropK (otK st.ot) (kW n)))) := (SameB.refl _ _).self
  have S6 := S5.setOt (l := adel st.ot n) sb (by rw [← otK_del]; exact upd_same)
  have k6 : KeepF p H5 (upd H5 p.ot (.dK (dropK (otK st.ot) (kW n)))) := KeepF.of (by simp [Pt.all]) sb
  have hq6 := hq5.kt (S5.kt k6)
  generalize upd H5 p.ot (.dK (dropK (otK st.ot) (kW n))) = H6 at *
  obtain ⟨dx6, e6⟩ := S6.ins
  refine ⟨dx6, _, e6, rfl, _, _, _, rfl, a, _, p, n, so, q, rfl, rfl, hq6, S6, hg, by show st.sp.length ≤ 1000; omega, by show st.he.length ≤ 1000; omega, fun H7 p' k7 u7 S7 => k H7 p' ?_ ?_ S7⟩
  · exact fun b o nb z => k7 b o nb (k6 b o nb (k5 b o nb (s14 b o z)))
  · exact (SubF.refl p H).trans (fun b o nb z => k6 b o nb (k5 b o nb (s14 b o z))) u7
abbrev N_Site_merge : List Str := ["self", "day", "name", "other"]
theorem sc_Site_merge : FnScope N_Site_merge ["self", "day", "name", "other"] (defScope s_Site_merge) := ⟨rfl, rfl, rfl, by decide +kernel, rfl, by decide +kernel, by decide +kernel⟩
theorem st_Site_merge (x0 x1 x2 x3 : V) : L2.start N_Site_merge [x0, x1, x2, x3] = [some x0, some x1, some x2, some x3] := rfl
def p_Site_merge : V → V → V → V → Hp → VK → Prop := fun v dv nv ov H Q => ∃ (a : Addr) (st : SS) (p : Pt) (d : Nat) (s : Bool) (n o : Wd), v = .ref a ∧ dv = .int (d : Int) ∧ nv = vW n ∧ ov = vW o ∧ SiteAt K H a st p ∧ Wf st ∧ Can st (.merge d s n o) ∧ DoneS K H a p (st.doEv (.merge d s n o)) Q
theorem ok_Site_merge (L : Lw K mg) : FN P w K mg base 4 a_Site_merge (sp4 (p_Site_merge (K := K))) := by
  obtain ⟨fd, F⟩ := L.Site_merge
  refine fn_any F sc_Site_merge (len4 rfl) (fun _ _ _ _ _ _ us hl => match us, hl with | [_, _, _, _], _ => rfl) fun cdv A outer s H vs Q E hr h => ?_
  obtain ⟨_, _, _, _, rfl, a, st, p, d, so, n, o, rfl, rfl, rfl, rfl, S, W, ⟨dy, hg, hgo, ⟨q0, hs⟩, ⟨q1, hso⟩, hno⟩, k⟩ := h
  have nd := sc_Site_merge.nd
  refine ⟨_, (pss_cons (ps_expr (pe_m (pv 0) L.c_Site L.m_Site_need_day (ok_Site_need_day L) (hr.mono (by decide)) (pa_cons (pv 1) pa_nil))) (pss_cons (ps_expr (pe_m (pv 0) L.c_Site L.m_Site_need_known (ok_Site_need_known L) (hr.mono (by decide)) (pa_cons (pv 2) pa_nil))) (pss_cons (ps_expr (pe_m (pv 0) L.c_Site L.m_Site_need_known (ok_Site_need_known L) (hr.mono (by decide)) (pa_cons (pv 3) pa_nil))) (pss_cons (ps_expr (pe_m (pv 0) L.c_Site L.m_Site_need_standing (ok_Site_need_standing L) (hr.mono (by decide)) (pa_cons (pv 2) pa_nil))) (pss_cons (ps_expr (pe_m (pv 0) L.c_Site L.m_Site_need_standing (ok_Site_need_standing L) (hr.mono (by decide)) (pa_cons (pv 3) pa_nil))) (pss_cons (ps_if (PW.pt (pw_or (pt_cmpR op_eq (pv 2) (pv 3) (nomark _)) (pw_or1 (pt_cmpR op_ne (pe_dget (hu_of hr) (pe_fld (pv 0) rfl) (pv 2) (fun _ _ => rfl)) (pe_dget (hu_of hr) (pe_fld (pv 0) rfl) (pv 3) (fun _ _ => rfl)) (nomark _))))) (pss_one ps_never) pss_nil) (pss_cons (ps_expr (pe_m (pv 0) L.c_Site L.m_Site_note (ok_Site_note L) (hr.mono (by decide)) (pa_cons (pv 1) (pa_cons pe_str (pa_cons (pe_dget (hu_of hr) (pe_fld (pv 0) rfl) (pv 2) (fun _ _ => rfl)) (pa_cons (pv 2) (pa_cons (pv 3) pa_nil))))))) (pss_cons (ps_expr (pe_m (pv 0) L.c_Site L.m_Site_end_claim (ok_Site_end_claim L) (hr.mono (by decide)) (pa_cons (pv 2) pa_nil))) (pss_one (ps_dput (hu_of hr) (pe_fld (pv 0) rfl) (pv 2) (pv 3) rfl)))))))))), ?_⟩
  simp only [tSl, tPart, tNoPart, tCKw, tVals, gStar, gCons, gNil, StX.tStar, tFmtS, tFmtI, tM0, tJs, tM1, rNewStrs, tMatch, setAll, lit_to, lit_page, lit_section, lit_gone, lit_exact, lit_open, tSeq, tAsg, tIfS, tRet, tRetN, tDrop, tNext, tNever, tOr, tAnd, tNot, tB, tTest, tCB, tCons, tVar, tC, tNil, tOp, tUn, tIf, tAndV, tOrV, tNotV, tChain, tTup, tLst, tCallR, tMethN, tMakeN, tPropN, tYes, gName, cx_K, cx_P, cx_w, rI0, rI, rEq, rNe, List.getElem?_cons_zero, List.getElem?_cons_succ, List.set_cons_zero, List.set_cons_succ, Option.some.injEq, exists_eq_left', exists_eq_left, V.bl.injEq, V.int.injEq, V.str.injEq, V.ref.injEq, List.cons.injEq, and_true, true_and, exists_and_left, and_assoc, List.append_nil, st_Site_merge, lit_merge, tDGet]
  obtain ⟨dx, e⟩ := S.ins
  have hl1 := W.l1
  refine ⟨dx, _, e, rfl, _, _, rfl, a, st, p, d, rfl, rfl, S, dy.ok.1, dy.all W, fun H1 s1 => ?_⟩
  refine ⟨dx, _, s1 _ _ e, rfl, _, _, rfl, a, st, p, n, so, rfl, rfl, S.mono s1, hg, fun H2 s2 => ?_⟩
  have s12 := s1.trans s2
  refine ⟨dx, _, s12 _ _ e, rfl, _, _, rfl, a, st, p, o, so, rfl, rfl, S.mono s12, hgo, fun H3 s3 => ?_⟩
  have s13 := s12.trans s3
  refine ⟨dx, _, s13 _ _ e, rfl, _, _, rfl, a, st, p, n, q0, rfl, rfl, S.mono s13, hs, fun H4 s4 => ?_⟩
  have s14 := s13.trans s4
  refine ⟨dx, _, s14 _ _ e, rfl, _, _, rfl, a, st, p, o, q1, rfl, rfl, S.mono s14, hso, fun H5 s5 => ?_⟩
  have s15 := s14.trans s5
  refine ⟨scal_W, ?_⟩
  rw [dec_W, decide_eq_false hno, if_neg (by decide)]
  refine fld_at rfl (s15 _ _ e) L.c_Site L.n_Site_sorts rfl ⟨p.so, rfl, _, dget_so (s15 _ _ S.so) hg, ?_⟩
  refine fld_at rfl (s15 _ _ e) L.c_Site L.n_Site_sorts rfl ⟨p.so, rfl, _, dget_so (s15 _ _ S.so) hgo, scal_W, ?_⟩
  rw [if_neg (by rw [decide_eq_true rfl]; decide)]
  have Sx := S.mono s15
  refine ⟨dx, _, s15 _ _ e, rfl, fld_at rfl (s15 _ _ e) L.c_Site L.n_Site_sorts rfl ⟨p.so, rfl, _, dget_so (s15 _ _ S.so) hg, ?_⟩⟩
  refine ⟨a, st, p, .merge d so n o, _, rfl, Sx, by omega, Nat.le_of_ble_eq_true rfl, (fun t ht => ⟨t, rfl, SqT.of upd_same⟩), fun H5 k5 S5 => ?_⟩
  obtain ⟨dx5, e5⟩ := S5.ins
  refine ⟨dx5, _, e5, rfl, _, _, rfl, a, _, p, n, q0, rfl, rfl, S5, hs, fun H6 k6 S6 => ?_⟩
  obtain ⟨dx6, e6⟩ := S6.ins
  simp only [tSl, tPart, tNoPart, tCKw, tVals, gStar, gCons, gNil, StX.tStar, tFmtS, tFmtI, tM0, tJs, tM1, rNewStrs, tMatch, setAll, lit_to, lit_page, lit_section, lit_gone, lit_exact, lit_open, tSeq, tAsg, tIfS, tRet, tRetN, tDrop, tNext, tNever, tOr, tAnd, tNot, tB, tTest, tCB, tCons, tVar, tC, tNil, tOp, tUn, tIf, tAndV, tOrV, tNotV, tChain, tTup, tLst, tCallR, tMethN, tMakeN, tPropN, tYes, gName, cx_K, cx_P, cx_w, rI0, rI, rEq, rNe, List.getElem?_cons_zero, List.getElem?_cons_succ, List.set_cons_zero, List.set_cons_succ, Option.some.injEq, exists_eq_left', exists_eq_left, V.bl.injEq, V.int.injEq, V.str.injEq, V.ref.injEq, List.cons.injEq, and_true, true_and, exists_and_left, and_assoc, List.append_nil, sDPut]
  have e6ot : H6 p.ot = some (.dK (otK st.ot)) := S6.ot
  have hot : (otK st.ot).length ≤ 500 := by rw [otK, List.length_map]; exact W.l5
  refine fld_at rfl e6 L.c_Site L.n_Site_others rfl ⟨p.ot, rfl, _, DPut.k (k := kW n) e6ot (Nat.lt_of_le_of_lt hot (by decide)), ?_⟩
  have sb : SameB p.ot H6 (upd H6 p.ot (.dK (putK (otK st.ot) (kW n) (oW (some o))))) := (SameB.refl _ _).self
  have S7 := S6.setOt (l := aput st.ot n (some o)) sb (by rw [← otK_put]; exact upd_same)
  have k7 : KeepF p H6 (upd H6 p.ot (.dK (putK (otK st.ot) (kW n) (oW (some o))))) := KeepF.of (by simp [Pt.all]) sb
  exact k _ p (fun b o nb z => k7 b o nb (k6 b o nb (k5 b o nb (s15 b o z)))) (SubF.refl p H) S7
abbrev N_Site_take : List Str := ["self", "day", "name"]
theorem sc_Site_take : FnScope N_Site_take ["self", "day", "name"] (defScope s_Site_take) := ⟨rfl, rfl, rfl, by decide +kernel, rfl, by decide +kernel, by decide +kernel⟩
theorem st_Site_take (x0 x1 x2 : V) : L2.start N_Site_take [x0, x1, x2] = [some x0, some x1, some x2] := rfl
def p_Site_take : V → V → V → Hp → VK → Prop := fun v dv nv H Q => ∃ (a : Addr) (st : SS) (p : Pt) (d : Nat) (s : Bool) (n : Wd), v = .ref a ∧ dv = .int (d : Int) ∧ nv = vW n ∧ SiteAt K H a st p ∧ Wf st ∧ Can st (.take d s n) ∧ DoneS K H a p (st.doEv (.take d s n)) Q
theorem ok_Site_take (L : Lw K mg) : FN P w K mg base 4 a_Site_take (sp3 (p_Site_take (K := K))) := by
  obtain ⟨fd, F⟩ := L.Site_take
  refine fn_any F sc_Site_take (len3 rfl) (fun _ _ _ _ _ _ us hl => match us, hl with | [_, _, _], _ => rfl) fun cdv A outer s H vs Q E hr h => ?_
  obtain ⟨_, _, _, rfl, a, st, p, d, so, n, rfl, rfl, rfl, S, W, ⟨dy, hg, ⟨q0, hs⟩⟩, k⟩ := h
  have nd := sc_Site_take.nd
  refine ⟨_, (pss_cons (ps_expr (pe_m (pv 0) L.c_Site L.m_Site_need_day (ok_Site_need_day L) (hr.mono (by decide)) (pa_cons (pv 1) pa_nil))) (pss_cons (ps_expr (pe_m (pv 0) L.c_Site L.m_Site_need_known (ok_Site_need_known L) (hr.mono (by decide)) (pa_cons (pv 2) pa_nil))) (pss_cons (ps_expr (pe_m (pv 0) L.c_Site L.m_Site_need_standing (ok_Site_need_standing L) (hr.mono (by decide)) (pa_cons (pv 2) pa_nil))) (pss_cons (ps_expr (pe_m (pv 0) L.c_Site L.m_Site_note (ok_Site_note L) (hr.mono (by decide)) (pa_cons (pv 1) (pa_cons pe_str (pa_cons (pe_dget (hu_of hr) (pe_fld (pv 0) rfl) (pv 2) (fun _ _ => rfl)) (pa_cons (pv 2) pa_nil)))))) (pss_cons (ps_expr (pe_m (pv 0) L.c_Site L.m_Site_end_claim (ok_Site_end_claim L) (hr.mono (by decide)) (pa_cons (pv 2) pa_nil))) (pss_one (ps_dput (hu_of hr) (pe_fld (pv 0) rfl) (pv 2) pe_non rfl))))))), ?_⟩
  simp only [tSl, tPart, tNoPart, tCKw, tVals, gStar, gCons, gNil, StX.tStar, tFmtS, tFmtI, tM0, tJs, tM1, rNewStrs, tMatch, setAll, lit_to, lit_page, lit_section, lit_gone, lit_exact, lit_open, tSeq, tAsg, tIfS, tRet, tRetN, tDrop, tNext, tNever, tOr, tAnd, tNot, tB, tTest, tCB, tCons, tVar, tC, tNil, tOp, tUn, tIf, tAndV, tOrV, tNotV, tChain, tTup, tLst, tCallR, tMethN, tMakeN, tPropN, tYes, gName, cx_K, cx_P, cx_w, rI0, rI, rEq, rNe, List.getElem?_cons_zero, List.getElem?_cons_succ, List.set_cons_zero, List.set_cons_succ, Option.some.injEq, exists_eq_left', exists_eq_left, V.bl.injEq, V.int.injEq, V.str.injEq, V.ref.injEq, List.cons.injEq, and_true, true_and, exists_and_left, and_assoc, List.append_nil, st_Site_take, lit_take, tDGet]
  obtain ⟨dx, e⟩ := S.ins
  have hl1 := W.l1
  refine ⟨dx, _, e, rfl, _, _, rfl, a, st, p, d, rfl, rfl, S, dy.ok.1, dy.all W, fun H1 s1 => ?_⟩
  refine ⟨dx, _, s1 _ _ e, rfl, _, _, rfl, a, st, p, n, so, rfl, rfl, S.mono s1, hg, fun H2 s2 => ?_⟩
  have s12 := s1.trans s2
  refine ⟨dx, _, s12 _ _ e, rfl, _, _, rfl, a, st, p, n, q0, rfl, rfl, S.mono s12, hs, fun H3 s3 => ?_⟩
  have s13 := s12.trans s3
  have S3 := S.mono s13
  refine ⟨dx, _, s13 _ _ e, rfl, fld_at rfl (s13 _ _ e) L.c_Site L.n_Site_sorts rfl ⟨p.so, rfl, _, dget_so (s13 _ _ S.so) hg, ?_⟩⟩
  refine ⟨a, st, p, .take d so n, _, rfl, S3, by omega, Nat.le_of_ble_eq_true rfl, (fun t ht => ⟨t, rfl, SqT.of upd_same⟩), fun H5 k5 S5 => ?_⟩
  obtain ⟨dx5, e5⟩ := S5.ins
  refine ⟨dx5, _, e5, rfl, _, _, rfl, a, _, p, n, q0, rfl, rfl, S5, hs, fun H6 k6 S6 => ?_⟩
  obtain ⟨dx6, e6⟩ := S6.ins
  simp only [tSl, tPart, tNoPart, tCKw, tVals, gStar, gCons, gNil, StX.tStar, tFmtS, tFmtI, tM0, tJs, tM1, rNewStrs, tMatch, setAll, lit_to, lit_page, lit_section, lit_gone, lit_exact, lit_open, tSeq, tAsg, tIfS, tRet, tRetN, tDrop, tNext, tNever, tOr, tAnd, tNot, tB, tTest, tCB, tCons, tVar, tC, tNil, tOp, tUn, tIf, tAndV, tOrV, tNotV, tChain, tTup, tLst, tCallR, tMethN, tMakeN, tPropN, tYes, gName, cx_K, cx_P, cx_w, rI0, rI, rEq, rNe, List.getElem?_cons_zero, List.getElem?_cons_succ, List.set_cons_zero, List.set_cons_succ, Option.some.injEq, exists_eq_left', exists_eq_left, V.bl.injEq, V.int.injEq, V.str.injEq, V.ref.injEq, List.cons.injEq, and_true, true_and, exists_and_left, and_assoc, List.append_nil, sDPut]
  have e6ot : H6 p.ot = some (.dK (otK st.ot)) := S6.ot
  have hot : (otK st.ot).length ≤ 500 := by rw [otK, List.length_map]; exact W.l5
  refine fld_at rfl e6 L.c_Site L.n_Site_others rfl ⟨p.ot, rfl, _, DPut.k (k := kW n) e6ot (Nat.lt_of_le_of_lt hot (by decide)), ?_⟩
  have sb : SameB p.ot H6 (upd H6 p.ot (.dK (putK (otK st.ot) (kW n) (oW none)))) := (SameB.refl _ _).self
  have S7 := S6.setOt (l := aput st.ot n none) sb (by rw [← otK_put]; exact upd_same)
  have k7 : KeepF p H6 (upd H6 p.ot (.dK (putK (otK st.ot) (kW n) (oW none)))) := KeepF.of (by simp [Pt.all]) sb
  exact k _ p (fun b o nb z => k7 b o nb (k6 b o nb (k5 b o nb (s13 b o z)))) (SubF.refl p H) S7
end
end K88
set_option maxHeartbeats 4000000
/-! xs == [], by length. -/
namespace K88
open PySem PySem.Spec PyProof.Rows L2
def rEqNil : R2 := fun x y H Q => ∃ a b xs, x = .ref a ∧ y = .ref b ∧ H a = some (.lst xs) ∧ H b = some (.lst []) ∧ Q (.bl xs.isEmpty) H
theorem op_eqNil {X : Cx} (hu : X.A.units < cLine) : OpR X (compareOp .Eq) rEqNil := by
  intro pins s σ H x y v u Q I rx ry h
  obtain ⟨a, b, xs, rfl, rfl, ea, eb, q⟩ := h
  obtain rfl : v = Value.ref a := rx
  obtain rfl : u = Value.ref b := ry
  obtain ⟨z1, i1, n1, r1, hl1, g1⟩ := I.lstM ea
  obtain ⟨z2, i2, n2, r2, hl2, g2⟩ := I.lstM eb
  cases r2
  have ta : s.TypeIs (.ref a) "list" := ⟨_, g1, rfl⟩
  have tb : s.TypeIs (.ref b) "list" := ⟨_, g2, rfl⟩
  show wpAny (model X.prog X.w) X.A (richCompare .Eq (.ref a) (.ref b)) (EP X pins σ Q) X.xe s
  cases r1 with
  | nil =>
    refine SeqAt.rcP_lists (items := #[]) (items2 := #[]) (e := fun _ => true) ⟨_, g1, rfl, _, rfl⟩ ⟨_, g2, rfl, _, rfl⟩ rfl hu (fun j h1 _ => absurd h1 (Nat.not_lt_zero _)) _ _ ?_
    exact ⟨.bl true, H, I, rfl, q⟩
  | cons r rr =>
    rename_i x0 u0 xr ur
    refine wpAny_richCompare_same_room (op := .Eq) ta tb F.slot_list_eq (call_meets F.slot_list_eq ta F.entry_list_eq (F.args_list_eq_2 _ _) (PySem.AutoSeq1.list___eq___list_list_0 a (u0 :: ur).toArray n1 b #[] n2 (by simp)) ⟨g1, g2, ?_⟩) hu
    exact ⟨(fun x => nomatch x), .bl false, H, I, rfl, q⟩
end K88
set_option maxHeartbeats 4000000
/-! The texts of tables and servers. -/
namespace K88
open PySem PySem.Spec PyProof.Rows L2
def tTb (rs : List Ru) : List Nat := tLn (rs.map tR)
def sDay : Wd := [100, 97, 121]
def lnH (h : Nat × List Ru) : List (List Nat) := (sDay ++ ([32] ++ dg h.1)) :: (sortR h.2).map tR
def lnSv (hs : Hs) : List (List Nat) := hs.flatMap lnH
def tSv (hs : Hs) : List Nat := tLn (lnSv hs)
theorem strs_ext {ls : List (List Nat)} {ys : List V} (hl : ys.length = ls.length) (h : ∀ (i : Nat) y, ys[i]? = some y → ∃ l, ls[i]? = some l ∧ y = .str (T l)) : ys = (ls.map T).map V.str := by
  refine List.ext_getElem? fun i => ?_
  rw [List.getElem?_map, List.getElem?_map]
  by_cases hi : i < ys.length
  · have e1 : ys[i]? = some ys[i] := List.getElem?_eq_getElem hi
    obtain ⟨l, e2, e3⟩ := h i _ e1
    rw [e1, e2, e3]
    rfl
  · rw [List.getElem?_eq_none (by omega), List.getElem?_eq_none (by omega)]
    rfl
/-- what is walked is made first -/
theorem tLc_cut {wi : TI} {g : TG} {tt : TT} {te : TE} {vs : List Nat} {σ : L2.St} {H : Hp} {Q : VK} {Src : It → Hp → Prop} (hw : ∀ R : It → Hp → Prop, (∀ J H1, Src J H1 → R J H1) → wi σ H R) (h : ∀ J H1, Src J H1 → tLc (fun _ H R => R J H) g tt te vs σ H1 Q) : tLc wi g tt te vs σ H Q :=
  hw _ fun J H1 s => h J H1 s
theorem tFor_cut {wi : TI} {g : TG} {tb : L2.TS} {D : Ends} {σ : L2.St} {H : Hp} {Src : It → Hp → Prop} (hw : ∀ R : It → Hp → Prop, (∀ J H1, Src J H1 → R J H1) → wi σ H R) (h : ∀ J H1, Src J H1 → tFor (fun _ H R => R J H) g tb D σ H1) : tFor wi g tb D σ H :=
  hw _ fun J H1 s => h J H1 s
theorem asg_cut {te : TE} {i : Nat} {D : Ends} {σ : L2.St} {H : Hp} {Src : V → Hp → Prop} (hw : ∀ R : VK, (∀ v H1, Src v H1 → R v H1) → te σ H R) (h : ∀ v H1, Src v H1 → D.nx (σ.set i (some v)) H1) : tAsg te (gName i) D σ H :=
  hw _ fun v H1 s => h v H1 s
/-- a comprehension that makes texts -/
theorem tLc_strs {wi : TI} {te : TE} {vs : List Nat} {σ : L2.St} {H : Hp} {Q : VK} {j n : Nat} {J : It} {G : Hp → Prop} {Y : Nat → Hp → V → Hp → Prop} (w : Walk J n G Y) (hw : ∀ R : It → Hp → Prop, R J H → wi σ H R) (ls : List (List Nat)) (hn : ls.length = n) (hz : n ≤ 1000)
    (hG : ∀ H', Same H H' → G H') (hv : ∀ x, wipe ((wipe σ vs).set j (some x)) vs = wipe σ vs)
    (hs : ∀ i x H1 H' l (Q : VK), ls[i]? = some l → Same H H1 → Y i H1 x H' → (∀ H4, Same H1 H4 → Q (.str (T l)) H4) → te ((wipe σ vs).set j (some x)) H' Q)
    (hd : ∀ D H', H D = none → Same H H' → H' D = some (.lst ((ls.map T).map V.str)) → Q (.ref D) H') : tLc wi (gName j) tYes te vs σ H Q := by
  refine tLc_name w hw (Nat.le_trans hz (by decide)) (fun i y _ => ∃ l, ls[i]? = some l ∧ y = .str (T l)) (fun _ _ _ _ _ e => e) hG hv (fun i x H1 H' Q' hi s1 y k => ?_) fun D ys H' hD hl hp s1 e => ?_
  · have e1 : ls[i]? = some (ls[i]'(by omega)) := List.getElem?_eq_getElem _
    exact hs i x H1 H' _ Q' e1 s1 y fun H4 s4 => k _ _ s4 ⟨_, e1, rfl⟩
  · rw [strs_ext (hl.trans hn.symm) hp] at e
    exact hd D H' hD s1 e
theorem join_len {ls : List (List Nat)} {m : Nat} (h : ∀ l ∈ ls, l.length ≤ m) (hm : m ≤ 200) (hn : ls.length ≤ 5000) : ((ls.map T).map (fun x => x.length)).sum + (ls.map T).length * (T [10]).length ≤ 16777216 := by
  have h1 := sum_len m ls h
  rw [List.map_map, show ((fun x : Str => x.length) ∘ T) = List.length from funext fun l => T_len l, List.length_map, T_len]
  have h2 : ls.length * m ≤ 5000 * 200 := Nat.mul_le_mul hn hm
  show _ + ls.length * 1 ≤ _
  omega
theorem join_T (ls : List (List Nat)) : Txt.join (T [10]) (ls.map T) = T (tLn ls) := SX.join_S [10] ls
theorem sortR_perm (rs : List Ru) : (sortR rs).Perm rs := List.mergeSort_perm ..
theorem OkRs.sort {rs : List Ru} (ok : OkRs rs) : OkRs (sortR rs) := ⟨fun r hr => ok.ok r ((sortR_perm rs).mem_iff.mp hr), ((sortR_perm rs).map keyOf).nodup_iff.mpr ok.nd, by rw [(sortR_perm rs).length_eq]; exact ok.hi⟩
theorem rus_lens {rs : List Ru} (ok : ∀ r ∈ rs, OkR r) : ∀ l ∈ rs.map tR, l.length ≤ 122 := fun l hl => by
  obtain ⟨r, hr, rfl⟩ := List.mem_map.mp hl
  exact tR_len (ok r hr)
theorem lx_empty : Str.ofString "" = T [] := by decide +kernel
theorem lx_day : Str.ofString "day " = T (sDay ++ [32]) := by decide +kernel
theorem wAn_freeC {ex : Bool} {a : An} (ok : OkAn ex a) {c : Nat} (hc : c < 47) : ∀ w ∈ wAn a, c ∉ w := by
  have lit : ∀ l : List Nat, l.all (fun x => decide (97 ≤ x)) = true → c ∉ l := fun l h m => by
    have := of_decide_eq_true (List.all_eq_true.mp h c m)
    omega
  cases a with
  | gone =>
    intro w hw
    rw [List.mem_singleton.mp hw]
    exact lit sGone rfl
  | page n =>
    intro w hw
    rcases List.mem_cons.mp hw with rfl | hw
    · exact lit sPage rfl
    · rw [List.mem_singleton.mp hw]
      exact ok.2.free (by omega)
  | «section» n =>
    intro w hw
    rcases List.mem_cons.mp hw with rfl | hw
    · exact lit sSection rfl
    · rw [List.mem_singleton.mp hw]
      exact ok.2.free (by omega)
  | to t d =>
    have ht := tAd_free ok.1 (c := c) (by omega) (by omega)
    by_cases h : d = 0
    · rw [show wAn (.to t d) = [sTo, tAd t] from if_pos h]
      intro w hw
      rcases List.mem_cons.mp hw with rfl | hw
      · exact lit sTo rfl
      · rw [List.mem_singleton.mp hw]
        exact ht
    · rw [show wAn (.to t d) = [sTo, tAd t, sFor, dg d] from if_neg h]
      intro w hw
      rcases List.mem_cons.mp hw with rfl | hw
      · exact lit sTo rfl
      · rcases List.mem_cons.mp hw with rfl | hw
        · exact ht
        · rcases List.mem_cons.mp hw with rfl | hw
          · exact lit sFor rfl
          · rw [List.mem_singleton.mp hw]
            intro m
            have := (dg_dig d c m).1
            omega
theorem tPl_freeC {ex : Bool} {a : Ad} (ok : OkA a) {c : Nat} (hc : c < 42) : c ∉ tPl ex a := by
  have ht := tAd_free ok (c := c) (by omega) (by omega)
  have h2 : c ∉ ([47, 42] : List Nat) := fun m => by
    simp at m
    omega
  unfold tPl
  split
  · exact ht
  · split
    · exact h2
    · intro m
      rcases List.mem_append.mp m with m | m
      · exact ht m
      · exact h2 m
theorem tR_nl {r : Ru} (ok : OkR r) : 10 ∉ tR r := by
  rw [tR_join]
  refine joinL_free (by decide) fun w hw => ?_
  rcases List.mem_cons.mp hw with rfl | hw
  · exact tPl_freeC ok.at_ (by decide)
  · exact wAn_freeC ok.an (by decide) w hw
theorem tPl_ne (ex : Bool) (a : Ad) : tPl ex a ≠ [] := by
  unfold tPl
  split
  · exact List.cons_ne_nil _ _
  · split <;> exact List.cons_ne_nil _ _
theorem tR_ne (r : Ru) : tR r ≠ [] := fun e => tPl_ne r.ex r.at_ (List.append_eq_nil_iff.mp e).1
theorem tLn_ne {l : List Nat} {ls : List (List Nat)} (h : l ≠ []) : tLn (l :: ls) ≠ [] := by
  cases ls with
  | nil => exact h
  | cons x ls => exact fun e => h (List.append_eq_nil_iff.mp e).1
theorem tLn_spl {ls : List (List Nat)} (h0 : ls ≠ []) (h : ∀ l ∈ ls, 10 ∉ l) : Txt.split (T (tLn ls)) (T [10]) = ls.map T := by
  rw [SX.split_S (by decide) (by decide)]
  exact congrArg (List.map T) (TL.spl_join h0 h)
theorem tLn_len {ls : List (List Nat)} {m : Nat} (h : ∀ l ∈ ls, l.length ≤ m) (hm : m ≤ 200) (hn : ls.length ≤ 5000) : (tLn ls).length + 2 ≤ sizeLine := by
  have h1 := joinL_len [10] m ls h
  have h2 : ls.length * (m + 1) ≤ 5000 * 201 := Nat.mul_le_mul hn (by omega)
  exact Nat.le_trans (show (tLn ls).length + 2 ≤ 1005002 from Nat.add_le_add_right (Nat.le_trans h1 h2) 2) (by decide)
theorem tyL {K : PySem.W.Frag} {H : Hp} {l : Addr} {xs : List V} (e : H l = some (.lst xs)) : tyV K "list" (.ref l) H := .inl ⟨rfl, _, SqL.of e⟩
theorem lnH_len {h : Nat × List Ru} (hi : h.2.length ≤ 40) : (lnH h).length ≤ 41 := by
  show ((sortR h.2).map tR).length + 1 ≤ 41
  rw [List.length_map, (sortR_perm h.2).length_eq]
  omega
theorem lnSv_len : ∀ {hs : Hs}, (∀ h ∈ hs, h.2.length ≤ 40) → (lnSv hs).length ≤ hs.length * 41
  | [], _ => Nat.le_refl _
  | h :: hs, q => by
    have h1 := lnH_len (q h (List.mem_cons_self ..))
    have h2 := lnSv_len (hs := hs) fun x m => q x (List.mem_cons_of_mem _ m)
    show (lnH h ++ lnSv hs).length ≤ (hs.length + 1) * 41
    rw [List.length_append]
    omega
theorem dg_free {n c : Nat} (hc : c < 48) : c ∉ dg n := fun m => by
  have := (dg_dig n c m).1
  omega
theorem lnSv_mem {hs : Hs} (ok : ∀ h ∈ hs, OkRs h.2) (dy : ∀ h ∈ hs, h.1 ≤ 1000000) : ∀ l ∈ lnSv hs, l.length ≤ 122 ∧ 10 ∉ l ∧ l ≠ [] := fun l hl => by
  obtain ⟨h, hh, hl⟩ := List.mem_flatMap.mp hl
  rcases List.mem_cons.mp hl with rfl | hl
  · have h1 := dg_len7 (n := h.1) (by have := dy h hh; omega)
    refine ⟨?_, fun m => ?_, List.cons_ne_nil _ _⟩
    · show (dg h.1).length + 1 + 1 + 1 + 1 ≤ 122
      omega
    · rcases List.mem_append.mp m with m | m
      · exact absurd m (by decide)
      · rcases List.mem_append.mp m with m | m
        · exact absurd m (by decide)
        · exact dg_free (by decide) m
  · have oks := (ok h hh).sort
    refine ⟨rus_lens oks.ok l hl, ?_⟩
    obtain ⟨r, hr, rfl⟩ := List.mem_map.mp hl
    exact ⟨tR_nl (oks.ok r hr), tR_ne r⟩
theorem days_cnt : ∀ {hs : Hs} {i : Nat} {h : Nat × List Ru}, (hs.map (·.1)).Pairwise (· < ·) → hs[i]? = some h → (hs.filter fun x => decide (x.1 ≤ h.1)).length = i + 1
  | x :: hs, 0, h, a, e => by
    cases e
    have a := (List.pairwise_cons.mp a).1
    rw [List.filter_cons_of_pos (by simp)]
    rw [List.filter_eq_nil_iff.mpr fun y hy => by
      have : x.1 < y.1 := a y.1 (List.mem_map_of_mem hy)
      simp
      omega]
    rfl
  | x :: hs, i + 1, h, a, e => by
    have a1 := List.pairwise_cons.mp a
    have e' : hs[i]? = some h := e
    have : x.1 < h.1 := a1.1 h.1 (List.mem_map_of_mem (List.mem_of_getElem? e'))
    rw [List.filter_cons_of_pos (by simp; omega), List.length_cons, days_cnt a1.2 e']
theorem paired_keepN {K : PySem.W.Frag} {H H' : Hp} {xs : List V} {rs : List Ru} (h : RusAt K H xs rs) (e : KeepN H H') : RusAt K H' xs rs := paired_imp h fun _ _ q => q.keep e
theorem rus_ext {K : PySem.W.Frag} {H : Hp} : ∀ {ys : List V} {rs : List Ru}, ys.length = rs.length → (∀ (i : Nat) y, ys[i]? = some y → ∃ r, rs[i]? = some r ∧ RuAt K H y r) → RusAt K H ys rs
  | [], [], _, _ => .nil
  | [], _ :: _, h, _ => by simp at h
  | _ :: _, [], h, _ => by simp at h
  | y :: ys, r :: rs, h, f => by
    obtain ⟨r', e, q⟩ := f 0 y rfl
    have e' : r = r' := by simpa using e
    subst e'
    exact .cons q (rus_ext (by simpa using h) fun i y hy => f (i + 1) y (by simpa using hy))
section
variable {P : Program} {w : World} {K : PySem.W.Frag} {mg : Str → Option Value} {base : Heap}
abbrev N_table_text : List Str := ["table", "rule"]
theorem sc_table_text : FnScope N_table_text ["table"] (defScope s_table_text) := ⟨rfl, rfl, rfl, by decide +kernel, rfl, by decide +kernel, by decide +kernel⟩
theorem st_table_text (x0 : V) : L2.start N_table_text [x0] = [some x0, none] := rfl
def p_table_text : V → Hp → VK → Prop := fun v H Q => ∃ rs, TblAt P w K H v rs ∧ OkRs rs ∧ RetV H Q (.str (T (tTb (sortR rs))))
theorem ok_table_text (L : Lw K mg) : FN P w K mg base 7 a_table_text (sp1 (p_table_text (P := P) (w := w) (K := K))) := by
  obtain ⟨fd, F⟩ := L.table_text
  refine fn_any F sc_table_text (len1 rfl) (fun _ _ _ _ _ _ us hl => match us, hl with | [_], _ => rfl) fun cdv A outer s H vs Q E hr h => ?_
  obtain ⟨_, rfl, rs, ⟨a, dx, d, rfl, ea, dn⟩, ok, k⟩ := h
  have nd := sc_table_text.nd
  refine ⟨_, (pss_one (ps_ret (pe_join pe_str (pe_lc (own := [("rule", 1)]) (g := gName 1) rfl nd (pi_tup (pe_pr (pv 0) L.c_Table L.p_Table_rules (ok_Table_rules L) (hr.mono (by decide)) rfl)) (blkOk_by (N := N_table_text) (sc := defScope s_table_text) (by decide +kernel)) (fun _ _ _ _ _ => (pg_name (i := 1) nd rfl (Or.inl rfl))) (fun _ _ _ _ _ => pts_nil) (fun _ _ _ _ _ => (pe_g (ok_rule_text L) (hr.mono (by decide)) rfl L.g_rule_text L.rule_text.kp (pa_cons (pv 1) pa_nil))))))), ?_⟩
  simp only [tSl, tPart, tNoPart, tCKw, tVals, gStar, gCons, gNil, StX.tStar, tFmtS, tFmtI, tM0, tJs, tM1, rNewStrs, tMatch, setAll, lit_to, lit_page, lit_section, lit_gone, lit_exact, lit_open, tSeq, tAsg, tIfS, tRet, tRetN, tDrop, tNext, tNever, tOr, tAnd, tNot, tB, tTest, tCB, tCons, tVar, tC, tNil, tOp, tUn, tIf, tAndV, tOrV, tNotV, tChain, tTup, tLst, tCallR, tMethN, tMakeN, tPropN, tYes, gName, cx_K, cx_P, cx_w, rI0, rI, rEq, rNe, List.getElem?_cons_zero, List.getElem?_cons_succ, List.set_cons_zero, List.set_cons_succ, Option.some.injEq, exists_eq_left', exists_eq_left, V.bl.injEq, V.int.injEq, V.str.injEq, V.ref.injEq, List.cons.injEq, and_true, true_and, exists_and_left, and_assoc, List.append_nil, st_table_text]
  refine ⟨⟨_, rfl⟩, tLc_cut (Src := fun J H1 => ∃ p xs, J = Itt K p ∧ Same H H1 ∧ SqT K H1 p xs ∧ RusAt K H1 xs (sortR rs)) (fun R r => ⟨_, rfl, a, dx, _, rfl, ea, _, rfl, rs, ⟨a, dx, d, rfl, ea, dn⟩, ok, fun p xs H1 s1 hp hx => ⟨p, rfl, ⟨xs, hp⟩, r _ _ ⟨p, xs, rfl, s1, hp, hx⟩⟩⟩) ?_⟩
  rintro J H1 ⟨p, xs, rfl, s1, hp, hx⟩
  have oks := ok.sort
  have hxl := Paired.length hx
  have hsl : (sortR rs).length ≤ 40 := oks.hi
  refine tLc_strs walk_tup (fun R r => r) ((sortR rs).map tR) (by rw [List.length_map, hxl]) (by omega) (fun H' s => s.sqt hp) (fun _ => rfl) ?_ ?_
  · rintro i x H2 H3 l Q' hl s2 ⟨rfl, hxi⟩ k'
    obtain ⟨r, hri, hra⟩ := paired_get hx hxi
    rw [List.getElem?_map, hri] at hl
    cases hl
    simp only [tSl, tPart, tNoPart, tCKw, tVals, gStar, gCons, gNil, StX.tStar, tFmtS, tFmtI, tM0, tJs, tM1, rNewStrs, tMatch, setAll, lit_to, lit_page, lit_section, lit_gone, lit_exact, lit_open, tSeq, tAsg, tIfS, tRet, tRetN, tDrop, tNext, tNever, tOr, tAnd, tNot, tB, tTest, tCB, tCons, tVar, tC, tNil, tOp, tUn, tIf, tAndV, tOrV, tNotV, tChain, tTup, tLst, tCallR, tMethN, tMakeN, tPropN, tYes, gName, cx_K, cx_P, cx_w, rI0, rI, rEq, rNe, List.getElem?_cons_zero, List.getElem?_cons_succ, List.set_cons_zero, List.set_cons_succ, Option.some.injEq, exists_eq_left', exists_eq_left, V.bl.injEq, V.int.injEq, V.str.injEq, V.ref.injEq, List.cons.injEq, and_true, true_and, exists_and_left, and_assoc, List.append_nil]
    exact ⟨_, rfl, _, rfl, r, hra.mono s2, oks.ok r (List.mem_of_getElem? hri), k'⟩
  · intro D H2 hD s2 e2
    refine ⟨D, rfl, ((sortR rs).map tR).map T, .inl (SqL.of e2), ?_, ?_⟩
    · rw [lx_nl]
      exact join_len (rus_lens oks.ok) (by decide) (by rw [List.length_map]; omega)
    · rw [lx_nl, join_T]
      exact k H2 (s1.trans s2)
abbrev N_read_table : List Str := ["text", "rules", "line", "found"]
theorem sc_read_table : FnScope N_read_table ["text"] (defScope s_read_table) := ⟨rfl, rfl, rfl, by decide +kernel, rfl, by decide +kernel, by decide +kernel⟩
theorem st_read_table (x0 : V) : L2.start N_read_table [x0] = [some x0, none, none, none] := rfl
def p_read_table : V → Hp → VK → Prop := fun v H Q => ∃ rs, v = .str (T (tTb rs)) ∧ OkRs rs ∧ sortR rs = rs ∧ ∀ tv H', Same H H' → TblAt P w K H' tv rs → Q tv H'
theorem ok_read_table (L : Lw K mg) : FN P w K mg base 9 a_read_table (sp1 (p_read_table (P := P) (w := w) (K := K))) := by
  obtain ⟨fd, F⟩ := L.read_table
  refine fn_any F sc_read_table (len1 rfl) (fun _ _ _ _ _ _ us hl => match us, hl with | [_], _ => rfl) fun cdv A outer s H vs Q E hr h => ?_
  obtain ⟨_, rfl, rs, rfl, ok, hs, k⟩ := h
  have nd := sc_read_table.nd
  refine ⟨_, (pss_cons (ps_if (pt_not (pt_val (pe_callB call_isi (by rfl) L.z_isinstance (by decide +kernel) (pa_cons (pv 0) (pa_cons (pe_bltn (v := .ty "str") (by rfl) L.z_str (by decide +kernel) rfl) pa_nil))))) (pss_one ps_never) pss_nil) (pss_cons (ps_try_thru0 (pss_cons (ps_set (i := 1) nd rfl (Or.inl rfl) (pe_ifExp (pt_cmpR op_ne (pv 0) pe_str (nomark _)) (pe_lc (own := [("line", 2)]) (g := gName 2) rfl nd (pi_list (pe_split (pv 0) pe_str)) (blkOk_by (N := N_read_table) (sc := defScope s_read_table) (by decide +kernel)) (fun _ _ _ _ _ => (pg_name (i := 2) nd rfl (Or.inl rfl))) (fun _ _ _ _ _ => pts_nil) (fun _ _ _ _ _ => (pe_g (ok_read_rule L) (hr.mono (by decide)) rfl L.g_read_rule L.read_rule.kp (pa_cons (pv 2) pa_nil)))) (pe_lst pa_nil))) (pss_one (ps_set (i := 3) nd rfl (Or.inl rfl) (pe_mk L.mk_Table (ok_Table_init L) (hr.mono (by decide)) rfl L.g_Table (pa_cons (pv 1) pa_nil)))))) (pss_cons (ps_if (pt_cmpR op_ne (pe_g (ok_table_text L) (hr.mono (by decide)) rfl L.g_table_text L.table_text.kp (pa_cons (pv 3) pa_nil)) (pv 0) (nomark _)) (pss_one ps_never) pss_nil) (pss_one (ps_ret (pv 3)))))), ?_⟩
  simp only [tSl, tPart, tNoPart, tCKw, tVals, gStar, gCons, gNil, StX.tStar, tFmtS, tFmtI, tM0, tJs, tM1, rNewStrs, tMatch, setAll, lit_to, lit_page, lit_section, lit_gone, lit_exact, lit_open, tAsg, tRet, tRetN, tDrop, tNext, tNever, tNot, tB, tTest, tCB, tCons, tVar, tC, tNil, tOp, tUn, tAndV, tOrV, tNotV, tChain, tTup, tLst, tCallR, tMethN, tMakeN, tPropN, tYes, gName, cx_K, cx_P, cx_w, rI0, rI, rEq, rNe, List.getElem?_cons_zero, List.getElem?_cons_succ, List.set_cons_zero, List.set_cons_succ, Option.some.injEq, exists_eq_left', exists_eq_left, V.bl.injEq, V.int.injEq, V.str.injEq, V.ref.injEq, List.cons.injEq, and_true, true_and, exists_and_left, and_assoc, List.append_nil, st_read_table]
  refine sif_nx (fun R r => ?_) fun H1 s1 => ?_
  · simp only [tSl, tPart, tNoPart, tCKw, tVals, gStar, gCons, gNil, StX.tStar, tFmtS, tFmtI, tM0, tJs, tM1, rNewStrs, tMatch, setAll, lit_to, lit_page, lit_section, lit_gone, lit_exact, lit_open, tSeq, tAsg, tIfS, tRet, tRetN, tDrop, tNext, tNever, tOr, tAnd, tNot, tB, tTest, tCB, tCons, tVar, tC, tNil, tOp, tUn, tIf, tAndV, tOrV, tNotV, tChain, tTup, tLst, tCallR, tMethN, tMakeN, tPropN, tYes, gName, cx_K, cx_P, cx_w, rI0, rI, rEq, rNe, List.getElem?_cons_zero, List.getElem?_cons_succ, List.set_cons_zero, List.set_cons_succ, Option.some.injEq, exists_eq_left', exists_eq_left, V.bl.injEq, V.int.injEq, V.str.injEq, V.ref.injEq, List.cons.injEq, and_true, true_and, exists_and_left, and_assoc, List.append_nil]
    exact isi_ty (.base (.str _)) kb_ss ⟨true, rfl, r H (Same.refl _)⟩
  have h40 := ok.hi
  refine asg_cut (Src := fun v H2 => ∃ l xs, v = .ref l ∧ Same H H2 ∧ H2 l = some (.lst xs) ∧ RusAt K H2 xs rs) (fun R r => ?_) ?_
  · by_cases h0 : rs = []
    · subst h0
      refine ife_no (fun R r => ?_) fun H2 s2 => ?_
      · simp only [tSl, tPart, tNoPart, tCKw, tVals, gStar, gCons, gNil, StX.tStar, tFmtS, tFmtI, tM0, tJs, tM1, rNewStrs, tMatch, setAll, lit_to, lit_page, lit_section, lit_gone, lit_exact, lit_open, tSeq, tAsg, tIfS, tRet, tRetN, tDrop, tNext, tNever, tOr, tAnd, tNot, tB, tTest, tCB, tCons, tVar, tC, tNil, tOp, tUn, tIf, tAndV, tOrV, tNotV, tChain, tTup, tLst, tCallR, tMethN, tMakeN, tPropN, tYes, gName, cx_K, cx_P, cx_w, rI0, rI, rEq, rNe, List.getElem?_cons_zero, List.getElem?_cons_succ, List.set_cons_zero, List.set_cons_succ, Option.some.injEq, exists_eq_left', exists_eq_left, V.bl.injEq, V.int.injEq, V.str.injEq, V.ref.injEq, List.cons.injEq, and_true, true_and, exists_and_left, and_assoc, List.append_nil]
        rw [lx_empty, decide_eq_true (show T (tTb []) = T [] from rfl)]
        exact ⟨rfl, r H1 (Same.refl _)⟩
      · simp only [tSl, tPart, tNoPart, tCKw, tVals, gStar, gCons, gNil, StX.tStar, tFmtS, tFmtI, tM0, tJs, tM1, rNewStrs, tMatch, setAll, lit_to, lit_page, lit_section, lit_gone, lit_exact, lit_open, tSeq, tAsg, tIfS, tRet, tRetN, tDrop, tNext, tNever, tOr, tAnd, tNot, tB, tTest, tCB, tCons, tVar, tC, tNil, tOp, tUn, tIf, tAndV, tOrV, tNotV, tChain, tTup, tLst, tCallR, tMethN, tMakeN, tPropN, tYes, gName, cx_K, cx_P, cx_w, rI0, rI, rEq, rNe, List.getElem?_cons_zero, List.getElem?_cons_succ, List.set_cons_zero, List.set_cons_succ, Option.some.injEq, exists_eq_left', exists_eq_left, V.bl.injEq, V.int.injEq, V.str.injEq, V.ref.injEq, List.cons.injEq, and_true, true_and, exists_and_left, and_assoc, List.append_nil]
        exact ⟨Nat.zero_le _, fun l hl => r _ _ ⟨l, [], rfl, (s1.trans s2).nw hl, upd_same, .nil⟩⟩
    · have hne : tTb rs ≠ [] := by
        cases rs with
        | nil => exact absurd rfl h0
        | cons x rs => exact tLn_ne (tR_ne x)
      refine ife_yes (fun R r => ?_) fun H2 s2 => ?_
      · simp only [tSl, tPart, tNoPart, tCKw, tVals, gStar, gCons, gNil, StX.tStar, tFmtS, tFmtI, tM0, tJs, tM1, rNewStrs, tMatch, setAll, lit_to, lit_page, lit_section, lit_gone, lit_exact, lit_open, tSeq, tAsg, tIfS, tRet, tRetN, tDrop, tNext, tNever, tOr, tAnd, tNot, tB, tTest, tCB, tCons, tVar, tC, tNil, tOp, tUn, tIf, tAndV, tOrV, tNotV, tChain, tTup, tLst, tCallR, tMethN, tMakeN, tPropN, tYes, gName, cx_K, cx_P, cx_w, rI0, rI, rEq, rNe, List.getElem?_cons_zero, List.getElem?_cons_succ, List.set_cons_zero, List.set_cons_succ, Option.some.injEq, exists_eq_left', exists_eq_left, V.bl.injEq, V.int.injEq, V.str.injEq, V.ref.injEq, List.cons.injEq, and_true, true_and, exists_and_left, and_assoc, List.append_nil]
        rw [lx_empty, decide_eq_false (show ¬ T (tTb rs) = T [] from fun z => hne (T_inj z))]
        exact ⟨rfl, r H1 (Same.refl _)⟩
      · have s2 := s1.trans s2
        have hsp : Txt.split (T (tTb rs)) (T [10]) = (rs.map tR).map T := tLn_spl (fun z => h0 (List.map_eq_nil_iff.mp z)) fun l hl => by
          obtain ⟨q, hq, rfl⟩ := List.mem_map.mp hl
          exact tR_nl (ok.ok q hq)
        refine tLc_cut (Src := fun J H3 => ∃ p, J = Itl K p ∧ Same H H3 ∧ H3 p = some (.lst (((rs.map tR).map T).map V.str))) (fun R r => ?_) ?_
        · simp only [tSl, tPart, tNoPart, tCKw, tVals, gStar, gCons, gNil, StX.tStar, tFmtS, tFmtI, tM0, tJs, tM1, rNewStrs, tMatch, setAll, lit_to, lit_page, lit_section, lit_gone, lit_exact, lit_open, tSeq, tAsg, tIfS, tRet, tRetN, tDrop, tNext, tNever, tOr, tAnd, tNot, tB, tTest, tCB, tCons, tVar, tC, tNil, tOp, tUn, tIf, tAndV, tOrV, tNotV, tChain, tTup, tLst, tCallR, tMethN, tMakeN, tPropN, tYes, gName, cx_K, cx_P, cx_w, rI0, rI, rEq, rNe, List.getElem?_cons_zero, List.getElem?_cons_succ, List.set_cons_zero, List.set_cons_succ, Option.some.injEq, exists_eq_left', exists_eq_left, V.bl.injEq, V.int.injEq, V.str.injEq, V.ref.injEq, List.cons.injEq, and_true, true_and, exists_and_left, and_assoc, List.append_nil, iList]
          rw [lx_nl]
          refine ⟨⟨_, rfl⟩, by rw [T_len]; rfl, by rw [T_len]; exact tLn_len (rus_lens ok.ok) (by decide) (by rw [List.length_map]; omega), fun p hp => ⟨⟨_, SqL.of upd_same⟩, r _ _ ⟨p, rfl, s2.nw hp, ?_⟩⟩⟩
          rw [hsp]
          exact upd_same
        · rintro J H3 ⟨p, rfl, s3, ep⟩
          have hn : (((rs.map tR).map T).map V.str).length = rs.length := by rw [List.length_map, List.length_map, List.length_map]
          refine tLc_name (walk_list (a := p)) (fun R r => r) (by rw [hn]; exact Nat.le_trans h40 (by decide)) (fun i v H => ∃ q, rs[i]? = some q ∧ RuAt K H v q) (fun _ _ _ _ e ⟨q, e1, e2⟩ => ⟨q, e1, e2.keep e⟩) (fun H' s => SqL.of (s _ _ ep)) (fun _ => rfl) (fun i x H4 H5 Q' hi s4 y k' => ?_) fun D ys H' hD hl hp s4 e => ?_
          · obtain ⟨rfl, hx⟩ := y
            rw [List.map_map, List.map_map, List.getElem?_map] at hx
            obtain ⟨q, hq, rfl⟩ := Option.map_eq_some_iff.mp hx
            simp only [tSl, tPart, tNoPart, tCKw, tVals, gStar, gCons, gNil, StX.tStar, tFmtS, tFmtI, tM0, tJs, tM1, rNewStrs, tMatch, setAll, lit_to, lit_page, lit_section, lit_gone, lit_exact, lit_open, tSeq, tAsg, tIfS, tRet, tRetN, tDrop, tNext, tNever, tOr, tAnd, tNot, tB, tTest, tCB, tCons, tVar, tC, tNil, tOp, tUn, tIf, tAndV, tOrV, tNotV, tChain, tTup, tLst, tCallR, tMethN, tMakeN, tPropN, tYes, gName, cx_K, cx_P, cx_w, rI0, rI, rEq, rNe, List.getElem?_cons_zero, List.getElem?_cons_succ, List.set_cons_zero, List.set_cons_succ, Option.some.injEq, exists_eq_left', exists_eq_left, V.bl.injEq, V.int.injEq, V.str.injEq, V.ref.injEq, List.cons.injEq, and_true, true_and, exists_and_left, and_assoc, List.append_nil]
            exact ⟨_, rfl, _, rfl, q, rfl, ok.ok q (List.mem_of_getElem? hq), fun v' H' s5 hv => k' v' H' s5 ⟨q, hq, hv⟩⟩
          · exact r _ _ ⟨D, ys, rfl, s3.trans s4, e, rus_ext (hl.trans hn) hp⟩
  · rintro _ H2 ⟨l, xs, rfl, s2, el, hx⟩
    simp only [tSl, tPart, tNoPart, tCKw, tVals, gStar, gCons, gNil, StX.tStar, tFmtS, tFmtI, tM0, tJs, tM1, rNewStrs, tMatch, setAll, lit_to, lit_page, lit_section, lit_gone, lit_exact, lit_open, tSeq, tAsg, tIfS, tRet, tRetN, tDrop, tNext, tNever, tOr, tAnd, tNot, tB, tTest, tCB, tCons, tVar, tC, tNil, tOp, tUn, tIf, tAndV, tOrV, tNotV, tChain, tTup, tLst, tCallR, tMethN, tMakeN, tPropN, tYes, gName, cx_K, cx_P, cx_w, rI0, rI, rEq, rNe, List.getElem?_cons_zero, List.getElem?_cons_succ, List.set_cons_zero, List.set_cons_succ, Option.some.injEq, exists_eq_left', exists_eq_left, V.bl.injEq, V.int.injEq, V.str.injEq, V.ref.injEq, List.cons.injEq, and_true, true_and, exists_and_left, and_assoc, List.append_nil]
    intro a dx ha hdx hne
    have s3 := (s2.nw (o := .own a) hdx).nw (o := .ins a_Table dx []) ((upd_ne hne.symm).trans ha)
    have s4 := ((Same.refl H2).nw (o := .own a) hdx).nw (o := .ins a_Table dx []) ((upd_ne hne.symm).trans ha)
    refine ⟨_, _, rfl, a, dx, l, xs, rs, rfl, rfl, upd_same, .inl (SqL.of (s4 _ _ el)), paired_imp hx fun _ _ q => q.mono s4, ok, fun d H' sb e hd => ⟨rfl, ?_⟩⟩
    have s5 : Same H H' := fun b o q => sb b o (ne_of_none (s2 b o q) ha) (s3 b o q)
    exact ⟨_, rfl, rs, ⟨a, dx, d, rfl, e, hd⟩, ok, fun H6 s6 => by
      show scal _ _ = true ∧ (if (!decide (V.str (T (tTb (sortR rs))) = V.str (T (tTb rs)))) = true then False else _)
      rw [hs, decide_eq_true (rfl : V.str (T (tTb rs)) = V.str (T (tTb rs)))]
      exact ⟨rfl, k _ H6 (s5.trans s6) ⟨a, dx, d, rfl, s6 _ _ e, hd.mono s6⟩⟩⟩
abbrev N_server_text : List Str := ["server", "lines", "day", "rule"]
theorem sc_server_text : FnScope N_server_text ["server"] (defScope s_server_text) := ⟨rfl, rfl, rfl, by decide +kernel, rfl, by decide +kernel, by decide +kernel⟩
theorem st_server_text (x0 : V) : L2.start N_server_text [x0] = [some x0, none, none, none] := rfl
def p_server_text : V → Hp → VK → Prop := fun v H Q => ∃ a hs, v = .ref a ∧ SvAt P w K H a hs ∧ OkHs hs ∧ RetV H Q (.str (T (tSv hs)))
theorem ok_server_text (L : Lw K mg) : FN P w K mg base 11 a_server_text (sp1 (p_server_text (P := P) (w := w) (K := K))) := by
  obtain ⟨fd, F⟩ := L.server_text
  refine fn_any F sc_server_text (len1 rfl) (fun _ _ _ _ _ _ us hl => match us, hl with | [_], _ => rfl) fun cdv A outer s H vs Q E hr h => ?_
  obtain ⟨_, rfl, a, hs, rfl, S, ok, k⟩ := h
  have nd := sc_server_text.nd
  refine ⟨_, (pss_cons (ps_set (i := 1) nd rfl (Or.inl rfl) (pe_lst pa_nil)) (pss_cons (ps_for PassesOwn.never rfl (pi_list (pe_pr (pv 0) L.c_Server L.p_Server_days (ok_Server_days L) (hr.mono (by decide)) rfl)) (pg_name (i := 2) nd rfl (Or.inl rfl)) (pss_cons (ps_expr (pe_bm PySem.F.plainAttrs_list PySem.F.slot_list_append PySem.F.type_list_append mt_append (pv 1) (pa_cons (pe_joined (.cons pe_str (.cons (pe_fmtI (pv 2)) .nil))) pa_nil))) (pss_one (ps_expr (pe_bm PySem.F.plainAttrs_list PySem.F.slot_list_extend PySem.F.type_list_extend mt_extend (pv 1) (pa_cons (pe_lc (own := [("rule", 3)]) (g := gName 3) rfl nd (pi_tup (pe_pr (pe_m (pv 0) L.c_Server L.m_Server_table (ok_Server_table L) (hr.mono (by decide)) (pa_cons (pv 2) pa_nil)) L.c_Table L.p_Table_rules (ok_Table_rules L) (hr.mono (by decide)) rfl)) (blkOk_by (N := N_server_text) (sc := defScope s_server_text) (by decide +kernel)) (fun _ _ _ _ _ => (pg_name (i := 3) nd rfl (Or.inl rfl))) (fun _ _ _ _ _ => pts_nil) (fun _ _ _ _ _ => (pe_g (ok_rule_text L) (hr.mono (by decide)) rfl L.g_rule_text L.rule_text.kp (pa_cons (pv 3) pa_nil)))) pa_nil)))))) (pss_one (ps_ret (pe_join pe_str (pv 1)))))), ?_⟩
  simp only [tSl, tPart, tNoPart, tCKw, tVals, gStar, gCons, gNil, StX.tStar, tFmtS, tFmtI, tM0, tJs, tM1, rNewStrs, tMatch, setAll, lit_to, lit_page, lit_section, lit_gone, lit_exact, lit_open, tAsg, tRet, tRetN, tDrop, tNext, tNever, tNot, tB, tTest, tCB, tCons, tVar, tC, tNil, tOp, tUn, tAndV, tOrV, tNotV, tChain, tTup, tLst, tCallR, tMethN, tMakeN, tPropN, tYes, gName, cx_K, cx_P, cx_w, rI0, rI, rEq, rNe, List.getElem?_cons_zero, List.getElem?_cons_succ, List.set_cons_zero, List.set_cons_succ, Option.some.injEq, exists_eq_left', exists_eq_left, V.bl.injEq, V.int.injEq, V.str.injEq, V.ref.injEq, List.cons.injEq, and_true, true_and, exists_and_left, and_assoc, List.append_nil, st_server_text]
  have hi := ok.hi
  simp only [tSl, tPart, tNoPart, tCKw, tVals, gStar, gCons, gNil, StX.tStar, tFmtS, tFmtI, tM0, tJs, tM1, rNewStrs, tMatch, setAll, lit_to, lit_page, lit_section, lit_gone, lit_exact, lit_open, tSeq, tAsg, tIfS, tRet, tRetN, tDrop, tNext, tNever, tOr, tAnd, tNot, tB, tTest, tCB, tCons, tVar, tC, tNil, tOp, tUn, tIf, tAndV, tOrV, tNotV, tChain, tTup, tLst, tCallR, tMethN, tMakeN, tPropN, tYes, gName, cx_K, cx_P, cx_w, rI0, rI, rEq, rNe, List.getElem?_cons_zero, List.getElem?_cons_succ, List.set_cons_zero, List.set_cons_succ, Option.some.injEq, exists_eq_left', exists_eq_left, V.bl.injEq, V.int.injEq, V.str.injEq, V.ref.injEq, List.cons.injEq, and_true, true_and, exists_and_left, and_assoc, List.append_nil]
  refine ⟨szl rfl, fun l hl => ?_⟩
  refine tFor_cut (Src := fun J H1 => ∃ p, J = Itl K p ∧ Same H H1 ∧ H1 p = some (.lst (hs.map fun h => V.int (h.1 : Int))) ∧ H1 l = some (.lst []) ∧ p ≠ l) (fun R r => ?_) ?_
  · simp only [tSl, tPart, tNoPart, tCKw, tVals, gStar, gCons, gNil, StX.tStar, tFmtS, tFmtI, tM0, tJs, tM1, rNewStrs, tMatch, setAll, lit_to, lit_page, lit_section, lit_gone, lit_exact, lit_open, tSeq, tAsg, tIfS, tRet, tRetN, tDrop, tNext, tNever, tOr, tAnd, tNot, tB, tTest, tCB, tCons, tVar, tC, tNil, tOp, tUn, tIf, tAndV, tOrV, tNotV, tChain, tTup, tLst, tCallR, tMethN, tMakeN, tPropN, tYes, gName, cx_K, cx_P, cx_w, rI0, rI, rEq, rNe, List.getElem?_cons_zero, List.getElem?_cons_succ, List.set_cons_zero, List.set_cons_succ, Option.some.injEq, exists_eq_left', exists_eq_left, V.bl.injEq, V.int.injEq, V.str.injEq, V.ref.injEq, List.cons.injEq, and_true, true_and, exists_and_left, and_assoc, List.append_nil, iList]
    obtain ⟨dx, p0, t0, ts0, h1, h2⟩ := id S
    have sl := (Same.refl H).nw (o := .lst []) hl
    exact ⟨dx, _, sl _ _ h1, _, rfl, a, hs, rfl, S.mono sl, fun p H1 s1 hp ep => ⟨_, rfl, ⟨_, SqL.of ep⟩, r _ _ ⟨p, rfl, sl.trans s1, ep, s1 _ _ upd_same, fun z => by rw [z, upd_same] at hp; cases hp⟩⟩⟩
  · rintro J H1 ⟨p, rfl, s1, ep, el, npl⟩
    have hn : (hs.map fun h => V.int (h.1 : Int)).length = hs.length := List.length_map ..
    refine tFor_w (walk_list (a := p) (xs := hs.map fun h => V.int (h.1 : Int))) (fun R r => r) (fun i σ H' => (∃ x y, σ = [some (.ref a), some (.ref l), x, y]) ∧ Same H H' ∧ H' p = some (.lst (hs.map fun h => V.int (h.1 : Int))) ∧ H' l = some (.lst (((lnSv (hs.take i)).map T).map V.str)))
      ⟨⟨_, _, rfl⟩, s1, ep, el⟩ (fun i σ H' _ q => SqL.of q.2.2.1) ?_ ?_
    · rintro i x σ H2 H3 hi ⟨⟨u, v, rfl⟩, s2, ep2, el2⟩ ⟨rfl, hx⟩
      rw [hn] at hi
      have hq : hs[i]? = some hs[i] := List.getElem?_eq_getElem hi
      generalize hs[i] = h at hq
      rw [List.getElem?_map, hq] at hx
      cases hx
      have hm := List.mem_of_getElem? hq
      have hd := ok.dy h hm
      have okh := ok.ok h hm
      have hln := lnSv_len (hs := hs.take i) fun h hm => (ok.ok h (List.mem_of_mem_take hm)).hi
      rw [List.length_take] at hln
      simp only [tSl, tPart, tNoPart, tCKw, tVals, gStar, gCons, gNil, StX.tStar, tFmtS, tFmtI, tM0, tJs, tM1, rNewStrs, tMatch, setAll, lit_to, lit_page, lit_section, lit_gone, lit_exact, lit_open, tSeq, tAsg, tIfS, tRet, tRetN, tDrop, tNext, tNever, tOr, tAnd, tNot, tB, tTest, tCB, tCons, tVar, tC, tNil, tOp, tUn, tIf, tAndV, tOrV, tNotV, tChain, tTup, tLst, tCallR, tMethN, tMakeN, tPropN, tYes, gName, cx_K, cx_P, cx_w, rI0, rI, rEq, rNe, List.getElem?_cons_zero, List.getElem?_cons_succ, List.set_cons_zero, List.set_cons_succ, Option.some.injEq, exists_eq_left', exists_eq_left, V.bl.injEq, V.int.injEq, V.str.injEq, V.ref.injEq, List.cons.injEq, and_true, true_and, exists_and_left, and_assoc, List.append_nil, tBM, rAppend, rExtend]
      have h7 := dg_len7 (n := h.1) (by omega)
      simp only [lx_day, empT, T_cat, List.nil_append, num_T, List.append_assoc]
      have hlt : (((lnSv (hs.take i)).map T).map V.str).length ≤ 900 := by
        rw [List.length_map, List.length_map]
        omega
      refine ⟨tyL el2, sz_T (Nat.le_of_ble_eq_true rfl), log_lt (by omega), sz_T ?_, _, el2, Nat.lt_of_le_of_lt hlt (by decide), tyL upd_same, ?_⟩
      · show (dg h.1).length + 1 + 1 + 1 + 1 ≤ _
        omega
      have sx := s2.mt (o := .lst (((lnSv (hs.take i)).map T).map V.str ++ [V.str (T (sDay ++ ([32] ++ dg h.1)))])) hl
      have ep3 := (upd_ne (H := H3) (o := .lst (((lnSv (hs.take i)).map T).map V.str ++ [V.str (T (sDay ++ ([32] ++ dg h.1)))])) npl).trans ep2
      have el3 := upd_same (H := H3) (a := l) (o := .lst (((lnSv (hs.take i)).map T).map V.str ++ [V.str (T (sDay ++ ([32] ++ dg h.1)))]))
      generalize upd H3 l (.lst (((lnSv (hs.take i)).map T).map V.str ++ [V.str (T (sDay ++ ([32] ++ dg h.1)))])) = H4 at sx ep3 el3
      obtain ⟨dx, p0, t0, ts0, h1, h2⟩ := id (S.mono sx)
      refine tLc_cut (Src := fun J H1 => ∃ p xs, J = Itt K p ∧ Same H4 H1 ∧ SqT K H1 p xs ∧ RusAt K H1 xs (sortR h.2)) (fun R r => ?_) ?_
      · simp only [tSl, tPart, tNoPart, tCKw, tVals, gStar, gCons, gNil, StX.tStar, tFmtS, tFmtI, tM0, tJs, tM1, rNewStrs, tMatch, setAll, lit_to, lit_page, lit_section, lit_gone, lit_exact, lit_open, tSeq, tAsg, tIfS, tRet, tRetN, tDrop, tNext, tNever, tOr, tAnd, tNot, tB, tTest, tCB, tCons, tVar, tC, tNil, tOp, tUn, tIf, tAndV, tOrV, tNotV, tChain, tTup, tLst, tCallR, tMethN, tMakeN, tPropN, tYes, gName, cx_K, cx_P, cx_w, rI0, rI, rEq, rNe, List.getElem?_cons_zero, List.getElem?_cons_succ, List.set_cons_zero, List.set_cons_succ, Option.some.injEq, exists_eq_left', exists_eq_left, V.bl.injEq, V.int.injEq, V.str.injEq, V.ref.injEq, List.cons.injEq, and_true, true_and, exists_and_left, and_assoc, List.append_nil, iTup]
        refine ⟨dx, _, h1, rfl, _, _, rfl, a, hs, h.1, i, h.2, rfl, rfl, S.mono sx, by omega, hq, days_cnt ok.asc hq, fun tv H5 s5 ht => ?_⟩
        obtain ⟨ta, tdx, td, rfl, et, hdn⟩ := id ht
        exact ⟨ta, rfl, tdx, _, et, _, rfl, h.2, ht, okh, fun p xs H6 s6 hp hx => ⟨p, rfl, ⟨_, hp⟩, r _ _ ⟨p, xs, rfl, s5.trans s6, hp, hx⟩⟩⟩
      · rintro J H5 ⟨q, xs, rfl, s5, hp, hx⟩
        have oks := okh.sort
        have hxl := Paired.length hx
        have hsl : (sortR h.2).length ≤ 40 := oks.hi
        refine tLc_strs walk_tup (fun R r => r) ((sortR h.2).map tR) (by rw [List.length_map, hxl]) (by omega) (fun H' s => s.sqt hp) (fun _ => rfl) ?_ ?_
        · rintro j y H6 H7 z Q' hz s6 ⟨rfl, hyj⟩ k'
          obtain ⟨r, hri, hra⟩ := paired_get hx hyj
          rw [List.getElem?_map, hri] at hz
          cases hz
          simp only [tSl, tPart, tNoPart, tCKw, tVals, gStar, gCons, gNil, StX.tStar, tFmtS, tFmtI, tM0, tJs, tM1, rNewStrs, tMatch, setAll, lit_to, lit_page, lit_section, lit_gone, lit_exact, lit_open, tSeq, tAsg, tIfS, tRet, tRetN, tDrop, tNext, tNever, tOr, tAnd, tNot, tB, tTest, tCB, tCons, tVar, tC, tNil, tOp, tUn, tIf, tAndV, tOrV, tNotV, tChain, tTup, tLst, tCallR, tMethN, tMakeN, tPropN, tYes, gName, cx_K, cx_P, cx_w, rI0, rI, rEq, rNe, List.getElem?_cons_zero, List.getElem?_cons_succ, List.set_cons_zero, List.set_cons_succ, Option.some.injEq, exists_eq_left', exists_eq_left, V.bl.injEq, V.int.injEq, V.str.injEq, V.ref.injEq, List.cons.injEq, and_true, true_and, exists_and_left, and_assoc, List.append_nil]
          exact ⟨_, rfl, _, rfl, r, hra.mono s6, oks.ok r (List.mem_of_getElem? hri), k'⟩
        · intro D H6 hD s6 e6
          have s7 := s5.trans s6
          refine ⟨D, rfl, _, s7 _ _ el3, _, e6, ?_, ⟨_, rfl⟩, (sx.trans s7).mt hl, (upd_ne npl).trans (s7 _ _ ep3), upd_same.trans ?_⟩
          · have : (((sortR h.2).map tR).map T).length ≤ 40 := by rw [List.length_map, List.length_map]; exact hsl
            rw [List.length_append, List.length_map _ (as := ((sortR h.2).map tR).map T)]
            exact Nat.le_trans (show _ ≤ 1000 by show _ + 1 + _ ≤ 1000; omega) (by decide)
          · have : lnSv (hs.take (i + 1)) = lnSv (hs.take i) ++ lnH h := by
              show List.flatMap _ _ = _
              rw [List.take_add_one, hq, List.flatMap_append]
              exact congrArg _ (List.append_nil _)
            rw [this, List.map_append, List.map_append, List.append_assoc]
            rfl
    · rintro σ H2 ⟨⟨u, v, rfl⟩, s2, ep2, el2⟩
      rw [hn, List.take_length] at el2
      simp only [tSl, tPart, tNoPart, tCKw, tVals, gStar, gCons, gNil, StX.tStar, tFmtS, tFmtI, tM0, tJs, tM1, rNewStrs, tMatch, setAll, lit_to, lit_page, lit_section, lit_gone, lit_exact, lit_open, tSeq, tAsg, tIfS, tRet, tRetN, tDrop, tNext, tNever, tOr, tAnd, tNot, tB, tTest, tCB, tCons, tVar, tC, tNil, tOp, tUn, tIf, tAndV, tOrV, tNotV, tChain, tTup, tLst, tCallR, tMethN, tMakeN, tPropN, tYes, gName, cx_K, cx_P, cx_w, rI0, rI, rEq, rNe, List.getElem?_cons_zero, List.getElem?_cons_succ, List.set_cons_zero, List.set_cons_succ, Option.some.injEq, exists_eq_left', exists_eq_left, V.bl.injEq, V.int.injEq, V.str.injEq, V.ref.injEq, List.cons.injEq, and_true, true_and, exists_and_left, and_assoc, List.append_nil]
      have hln := lnSv_len (hs := hs) fun h hm => (ok.ok h hm).hi
      have hmm := lnSv_mem ok.ok ok.dy
      rw [lx_nl]
      refine ⟨⟨_, rfl⟩, (lnSv hs).map T, .inl (SqL.of el2), join_len (fun l hl => (hmm l hl).1) (by decide) (by omega), ?_⟩
      rw [join_T]
      exact k H2 s2
end
end K88
set_option maxHeartbeats 4000000
/-! The texts of servers, read. -/
namespace K88
open PySem PySem.Spec PyProof.Rows L2
abbrev Tl := Nat ⊕ Ru
abbrev Part := Nat × List (List Nat)
def lnT : Tl → List Nat
  | .inl d => sDay ++ ([32] ++ dg d)
  | .inr r => tR r
def tlH (h : Nat × List Ru) : List Tl := .inl h.1 :: (sortR h.2).map .inr
def tls (hs : Hs) : List Tl := hs.flatMap tlH
theorem tls_ln : ∀ hs : Hs, (tls hs).map lnT = lnSv hs
  | [] => rfl
  | h :: hs => by
    show List.map lnT (tlH h ++ tls hs) = lnH h ++ lnSv hs
    rw [List.map_append, tls_ln hs]
    congr 1
    show _ :: List.map lnT (List.map Sum.inr (sortR h.2)) = _
    rw [List.map_map]
    rfl
def gath (acc : List Part) : Tl → List Part
  | .inl d => acc ++ [(d, [])]
  | .inr r => match acc.reverse with
    | [] => []
    | x :: rest => rest.reverse ++ [(x.1, x.2 ++ [tR r])]
theorem gath_r (acc : List Part) (x : Part) (r : Ru) : gath (acc ++ [x]) (.inr r) = acc ++ [(x.1, x.2 ++ [tR r])] := by
  show (match (acc ++ [x]).reverse with
    | [] => []
    | x :: rest => rest.reverse ++ [(x.1, x.2 ++ [tR r])]) = _
  rw [List.reverse_append]
  show acc.reverse.reverse ++ _ = _
  rw [List.reverse_reverse]
theorem gath_ne {acc : List Part} (h : acc ≠ []) (t : Tl) : gath acc t ≠ [] := by
  cases t with
  | inl d => exact List.append_ne_nil_of_right_ne_nil _ (List.cons_ne_nil _ _)
  | inr r =>
    rcases List.eq_nil_or_concat acc with rfl | ⟨i, x, e⟩
    · exact absurd rfl h
    · rw [e, List.concat_eq_append, gath_r]
      exact List.append_ne_nil_of_right_ne_nil _ (List.cons_ne_nil _ _)
theorem gaths_ne : ∀ {ts : List Tl} {acc : List Part}, acc ≠ [] → ts.foldl gath acc ≠ []
  | [], _, h => h
  | t :: ts, _, h => gaths_ne (ts := ts) (gath_ne h t)
theorem gaths_r : ∀ (rs : List Ru) (acc : List Part) (d : Nat) (ls : List (List Nat)), (rs.map Sum.inr).foldl gath (acc ++ [(d, ls)]) = acc ++ [(d, ls ++ rs.map tR)]
  | [], acc, d, ls => by
    show acc ++ [(d, ls)] = acc ++ [(d, ls ++ [])]
    rw [List.append_nil]
  | r :: rs, acc, d, ls => by
    show (rs.map Sum.inr).foldl gath (gath (acc ++ [(d, ls)]) (.inr r)) = _
    rw [gath_r, gaths_r rs acc d (ls ++ [tR r]), List.append_assoc]
    rfl
def prt (h : Nat × List Ru) : Part := (h.1, (sortR h.2).map tR)
theorem gaths : ∀ (hs : Hs) (acc : List Part), (tls hs).foldl gath acc = acc ++ hs.map prt
  | [], acc => (List.append_nil _).symm
  | h :: hs, acc => by
    show (tlH h ++ tls hs).foldl gath acc = _
    rw [List.foldl_append]
    show (tls hs).foldl gath (((sortR h.2).map Sum.inr).foldl gath (acc ++ [(h.1, [])])) = _
    rw [gaths_r, gaths hs, List.append_assoc]
    rfl
def PBd (k : Nat) (acc : List Part) : Prop := acc.length ≤ k ∧ ∀ p ∈ acc, p.2.length ≤ k
theorem gath_bd {k : Nat} {acc : List Part} (h : PBd k acc) (t : Tl) : PBd (k + 1) (gath acc t) := by
  obtain ⟨h1, h2⟩ := h
  cases t with
  | inl d =>
    refine ⟨?_, fun p hp => ?_⟩
    · show (acc ++ [(d, [])]).length ≤ k + 1
      rw [List.length_append]
      exact Nat.add_le_add_right h1 1
    · rcases List.mem_append.mp hp with hp | hp
      · exact Nat.le_succ_of_le (h2 p hp)
      · rw [List.mem_singleton.mp hp]
        exact Nat.zero_le _
  | inr r =>
    rcases List.eq_nil_or_concat acc with rfl | ⟨i, x, e⟩
    · exact ⟨Nat.zero_le _, fun _ z => nomatch z⟩
    · rw [List.concat_eq_append] at e
      subst e
      rw [gath_r]
      rw [List.length_append] at h1
      refine ⟨?_, fun p hp => ?_⟩
      · rw [List.length_append]
        exact Nat.le_succ_of_le h1
      · rcases List.mem_append.mp hp with hp | hp
        · exact Nat.le_succ_of_le (h2 p (List.mem_append_left _ hp))
        · rw [List.mem_singleton.mp hp]
          show (x.2 ++ [tR r]).length ≤ _
          rw [List.length_append]
          exact Nat.add_le_add_right (h2 x (List.mem_append_right _ (List.mem_singleton.mpr rfl))) 1
theorem gaths_bd : ∀ (ts : List Tl) {k : Nat} {acc : List Part}, PBd k acc → PBd (k + ts.length) (ts.foldl gath acc)
  | [], _, _, h => h
  | t :: ts, k, _, h => by
    have := gaths_bd ts (gath_bd h t)
    rw [show k + (t :: ts).length = k + 1 + ts.length by rw [List.length_cons]; omega]
    exact this
theorem tPl_day (ex : Bool) (a : Ad) : tPl ex a ≠ sDay := by
  unfold tPl
  split
  · exact fun z => absurd (List.cons.inj z).1 (by decide)
  · split
    · decide
    · exact fun z => absurd (List.cons.inj z).1 (by decide)
theorem lx_dayw : Str.ofString "day" = T sDay := by decide +kernel
theorem lnT_par (t : Tl) (ok : ∀ r, t = .inr r → OkR r) : ∃ wd q, Txt.partition (T (lnT t)) (T [32]) = (T wd, T [32], T q) ∧ (match t with | .inl d => wd = sDay ∧ q = dg d | .inr _ => wd ≠ sDay) := by
  cases t with
  | inl d => exact ⟨sDay, dg d, SX.partition_some (by decide) (TL.par_part1 (S := []) (s := 32) (by decide)), rfl, rfl⟩
  | inr r => exact ⟨tPl r.ex r.at_, tAn r.an, SX.partition_some (by decide) (TL.par_part1 (S := []) (s := 32) (tPl_free (ok r rfl).at_)), tPl_day _ _⟩
theorem tls_ok {hs : Hs} (ok : OkHs hs) (r : Ru) (h : Sum.inr r ∈ tls hs) : OkR r := by
  obtain ⟨x, hx, h⟩ := List.mem_flatMap.mp h
  rcases List.mem_cons.mp h with h | h
  · cases h
  · obtain ⟨y, hy, e⟩ := List.mem_map.mp h
    cases e
    exact (ok.ok x hx).sort.ok r hy
theorem tls_day {hs : Hs} (ok : OkHs hs) {d : Nat} (h : Sum.inl d ∈ tls hs) : d ≤ 1000000 := by
  obtain ⟨x, hx, h⟩ := List.mem_flatMap.mp h
  rcases List.mem_cons.mp h with h | h
  · cases h
    exact ok.dy x hx
  · obtain ⟨y, hy, e⟩ := List.mem_map.mp h
    cases e
theorem tls_ne {hs : Hs} {i : Nat} {r : Ru} (h : (tls hs)[i]? = some (.inr r)) : ((tls hs).take i).foldl gath [] ≠ [] := by
  cases hs with
  | nil => cases h
  | cons x hs =>
    cases i with
    | zero => cases h
    | succ i => exact gaths_ne (acc := [(x.1, [])]) (List.cons_ne_nil _ _)
/-- the parts of a text, at l -/
structure PAt (H : Hp) (l : Addr) (es : List (Addr × Addr × Part)) : Prop where
  l : H l = some (.lst (es.map fun e => V.ref e.1))
  t : ∀ e ∈ es, H e.1 = some (.tup [.int (e.2.2.1 : Int), .ref e.2.1]) ∧ H e.2.1 = some (.lst ((e.2.2.2.map T).map V.str))
theorem PAt.mono {H H' : Hp} {l : Addr} {es : List (Addr × Addr × Part)} (h : PAt H l es) (s : Same H H') : PAt H' l es := ⟨s _ _ h.l, fun e he => ⟨s _ _ (h.t e he).1, s _ _ (h.t e he).2⟩⟩
section
variable {P : Program} {w : World} {K : PySem.W.Frag} {mg : Str → Option Value} {base : Heap}
abbrev N_read_parts : List Str := ["text", "parts", "line", "word", "sign", "rest"]
theorem sc_read_parts : FnScope N_read_parts ["text"] (defScope s_read_parts) := ⟨rfl, rfl, rfl, by decide +kernel, rfl, by decide +kernel, by decide +kernel⟩
theorem st_read_parts (x0 : V) : L2.start N_read_parts [x0] = [some x0, none, none, none, none, none] := rfl
def p_read_parts : V → Hp → VK → Prop := fun v H Q => ∃ hs, v = .str (T (tSv hs)) ∧ OkHs hs ∧ ∀ l es H', Same H H' → PAt H' l es → es.map (·.2.2) = hs.map prt → Q (.ref l) H'
theorem ok_read_parts (L : Lw K mg) : FN P w K mg base 2 a_read_parts (sp1 p_read_parts) := by
  obtain ⟨fd, F⟩ := L.read_parts
  refine fn_any F sc_read_parts (len1 rfl) (fun _ _ _ _ _ _ us hl => match us, hl with | [_], _ => rfl) fun cdv A outer s H vs Q E hr h => ?_
  obtain ⟨_, rfl, hs, rfl, ok, k⟩ := h
  have nd := sc_read_parts.nd
  refine ⟨_, (pss_cons (ps_set (i := 1) nd rfl (Or.inl rfl) (pe_lst pa_nil)) (pss_cons (ps_for PassesOwn.never rfl (pi_list (pe_ifExp (pt_cmpR op_ne (pv 0) pe_str (nomark _)) (pe_split (pv 0) pe_str) (pe_lst pa_nil))) (pg_name (i := 2) nd rfl (Or.inl rfl)) (pss_cons (ps_asg (pe_partition (pv 2) pe_str) (pg_tup rfl (pgs_cons (pg_name (i := 3) nd rfl (Or.inl rfl)) (pgs_cons (pg_name (i := 4) nd rfl (Or.inl rfl)) (pgs_cons (pg_name (i := 5) nd rfl (Or.inl rfl)) pgs_nil))))) (pss_one (ps_if (pt_cmpR op_eq (pv 3) pe_str (nomark _)) (pss_one (ps_expr (pe_bm PySem.F.plainAttrs_list PySem.F.slot_list_append PySem.F.type_list_append mt_append (pv 1) (pa_cons (pe_tup (pa_cons (pe_g (ok_figure L) (hr.mono (by decide)) rfl L.g_figure L.figure.kp (pa_cons (pv 5) pa_nil)) (pa_cons (pe_lst pa_nil) pa_nil))) pa_nil)))) (pss_one (ps_if (pt_cmpR (op_eqNil hr.units0) (pv 1) (pe_lst pa_nil) (nomark _)) (pss_one ps_never) (pss_one (ps_expr (pe_bm PySem.F.plainAttrs_list PySem.F.slot_list_append PySem.F.type_list_append mt_append (pe_ix (ix_tupK (K := K) rfl) (pe_ix (ix_listK (K := K) rfl) (pv 1) (pe_un un_neg pe_int) (fun _ _ => rfl)) pe_int (fun _ _ => rfl)) (pa_cons (pv 2) pa_nil)))))))))) (pss_one (ps_ret (pv 1))))), ?_⟩
  simp only [tSl, tPart, tNoPart, tCKw, tVals, gStar, gCons, gNil, StX.tStar, tFmtS, tFmtI, tM0, tJs, tM1, rNewStrs, tMatch, setAll, lit_to, lit_page, lit_section, lit_gone, lit_exact, lit_open, tAsg, tRet, tRetN, tDrop, tNext, tNever, tNot, tB, tTest, tCB, tCons, tVar, tC, tNil, tOp, tUn, tAndV, tOrV, tNotV, tChain, tTup, tLst, tCallR, tMethN, tMakeN, tPropN, tYes, gName, cx_K, cx_P, cx_w, rI0, rI, rEq, rNe, List.getElem?_cons_zero, List.getElem?_cons_succ, List.set_cons_zero, List.set_cons_succ, Option.some.injEq, exists_eq_left', exists_eq_left, V.bl.injEq, V.int.injEq, V.str.injEq, V.ref.injEq, List.cons.injEq, and_true, true_and, exists_and_left, and_assoc, List.append_nil, st_read_parts]
  have hmm := lnSv_mem ok.ok ok.dy
  have hln : (lnSv hs).length ≤ 820 := Nat.le_trans (lnSv_len fun h hm => (ok.ok h hm).hi) (Nat.le_trans (Nat.mul_le_mul_right 41 ok.hi) (by decide))
  rw [← tls_ln] at hln hmm
  rw [List.length_map] at hln
  simp only [tSl, tPart, tNoPart, tCKw, tVals, gStar, gCons, gNil, StX.tStar, tFmtS, tFmtI, tM0, tJs, tM1, rNewStrs, tMatch, setAll, lit_to, lit_page, lit_section, lit_gone, lit_exact, lit_open, tSeq, tAsg, tIfS, tRet, tRetN, tDrop, tNext, tNever, tOr, tAnd, tNot, tB, tTest, tCB, tCons, tVar, tC, tNil, tOp, tUn, tIf, tAndV, tOrV, tNotV, tChain, tTup, tLst, tCallR, tMethN, tMakeN, tPropN, tYes, gName, cx_K, cx_P, cx_w, rI0, rI, rEq, rNe, List.getElem?_cons_zero, List.getElem?_cons_succ, List.set_cons_zero, List.set_cons_succ, Option.some.injEq, exists_eq_left', exists_eq_left, V.bl.injEq, V.int.injEq, V.str.injEq, V.ref.injEq, List.cons.injEq, and_true, true_and, exists_and_left, and_assoc, List.append_nil]
  refine ⟨szl rfl, fun l hl => ?_⟩
  have sl := (Same.refl H).nw (o := .lst []) hl
  refine tFor_cut (Src := fun J H1 => ∃ p, J = Itl K p ∧ Same H H1 ∧ H1 p = some (.lst ((((tls hs).map lnT).map T).map V.str)) ∧ H1 l = some (.lst []) ∧ p ≠ l) (fun R r => ?_) ?_
  · show tIf _ _ _ _ _ _
    by_cases h0 : hs = []
    · subst h0
      refine ife_no (fun R r => ?_) fun H2 s2 => ?_
      · simp only [tSl, tPart, tNoPart, tCKw, tVals, gStar, gCons, gNil, StX.tStar, tFmtS, tFmtI, tM0, tJs, tM1, rNewStrs, tMatch, setAll, lit_to, lit_page, lit_section, lit_gone, lit_exact, lit_open, tSeq, tAsg, tIfS, tRet, tRetN, tDrop, tNext, tNever, tOr, tAnd, tNot, tB, tTest, tCB, tCons, tVar, tC, tNil, tOp, tUn, tIf, tAndV, tOrV, tNotV, tChain, tTup, tLst, tCallR, tMethN, tMakeN, tPropN, tYes, gName, cx_K, cx_P, cx_w, rI0, rI, rEq, rNe, List.getElem?_cons_zero, List.getElem?_cons_succ, List.set_cons_zero, List.set_cons_succ, Option.some.injEq, exists_eq_left', exists_eq_left, V.bl.injEq, V.int.injEq, V.str.injEq, V.ref.injEq, List.cons.injEq, and_true, true_and, exists_and_left, and_assoc, List.append_nil]
        rw [lx_empty, decide_eq_true (show T (tSv []) = T [] from rfl)]
        exact ⟨rfl, r _ (Same.refl _)⟩
      · simp only [tSl, tPart, tNoPart, tCKw, tVals, gStar, gCons, gNil, StX.tStar, tFmtS, tFmtI, tM0, tJs, tM1, rNewStrs, tMatch, setAll, lit_to, lit_page, lit_section, lit_gone, lit_exact, lit_open, tSeq, tAsg, tIfS, tRet, tRetN, tDrop, tNext, tNever, tOr, tAnd, tNot, tB, tTest, tCB, tCons, tVar, tC, tNil, tOp, tUn, tIf, tAndV, tOrV, tNotV, tChain, tTup, tLst, tCallR, tMethN, tMakeN, tPropN, tYes, gName, cx_K, cx_P, cx_w, rI0, rI, rEq, rNe, List.getElem?_cons_zero, List.getElem?_cons_succ, List.set_cons_zero, List.set_cons_succ, Option.some.injEq, exists_eq_left', exists_eq_left, V.bl.injEq, V.int.injEq, V.str.injEq, V.ref.injEq, List.cons.injEq, and_true, true_and, exists_and_left, and_assoc, List.append_nil]
        exact ⟨szl rfl, fun p hp => ⟨⟨_, SqL.of upd_same⟩, r _ _ ⟨p, rfl, (sl.trans s2).nw hp, upd_same, (upd_ne (ne_of_none (s2 _ _ upd_same) hp)).trans (s2 _ _ upd_same), fun z => by rw [z, s2 _ _ upd_same] at hp; cases hp⟩⟩⟩
    · have hne : tSv hs ≠ [] := by
        cases hs with
        | nil => exact absurd rfl h0
        | cons x hs => exact tLn_ne (List.cons_ne_nil _ _)
      have hne2 : lnSv hs ≠ [] := fun z => hne (congrArg tLn z)
      refine ife_yes (fun R r => ?_) fun H2 s2 => ?_
      · simp only [tSl, tPart, tNoPart, tCKw, tVals, gStar, gCons, gNil, StX.tStar, tFmtS, tFmtI, tM0, tJs, tM1, rNewStrs, tMatch, setAll, lit_to, lit_page, lit_section, lit_gone, lit_exact, lit_open, tSeq, tAsg, tIfS, tRet, tRetN, tDrop, tNext, tNever, tOr, tAnd, tNot, tB, tTest, tCB, tCons, tVar, tC, tNil, tOp, tUn, tIf, tAndV, tOrV, tNotV, tChain, tTup, tLst, tCallR, tMethN, tMakeN, tPropN, tYes, gName, cx_K, cx_P, cx_w, rI0, rI, rEq, rNe, List.getElem?_cons_zero, List.getElem?_cons_succ, List.set_cons_zero, List.set_cons_succ, Option.some.injEq, exists_eq_left', exists_eq_left, V.bl.injEq, V.int.injEq, V.str.injEq, V.ref.injEq, List.cons.injEq, and_true, true_and, exists_and_left, and_assoc, List.append_nil]
        rw [lx_empty, decide_eq_false (show ¬ T (tSv hs) = T [] from fun z => hne (T_inj z))]
        exact ⟨rfl, r _ (Same.refl _)⟩
      · simp only [tSl, tPart, tNoPart, tCKw, tVals, gStar, gCons, gNil, StX.tStar, tFmtS, tFmtI, tM0, tJs, tM1, rNewStrs, tMatch, setAll, lit_to, lit_page, lit_section, lit_gone, lit_exact, lit_open, tSeq, tAsg, tIfS, tRet, tRetN, tDrop, tNext, tNever, tOr, tAnd, tNot, tB, tTest, tCB, tCons, tVar, tC, tNil, tOp, tUn, tIf, tAndV, tOrV, tNotV, tChain, tTup, tLst, tCallR, tMethN, tMakeN, tPropN, tYes, gName, cx_K, cx_P, cx_w, rI0, rI, rEq, rNe, List.getElem?_cons_zero, List.getElem?_cons_succ, List.set_cons_zero, List.set_cons_succ, Option.some.injEq, exists_eq_left', exists_eq_left, V.bl.injEq, V.int.injEq, V.str.injEq, V.ref.injEq, List.cons.injEq, and_true, true_and, exists_and_left, and_assoc, List.append_nil]
        rw [lx_nl]
        refine ⟨⟨_, rfl⟩, by rw [T_len]; rfl, by rw [T_len]; exact tLn_len (ls := lnSv hs) (m := 122) (fun l hl => by rw [tls_ln] at hmm; exact (hmm l hl).1) (by decide) (by rw [← tls_ln, List.length_map]; omega), fun p hp => ⟨⟨_, SqL.of upd_same⟩, r _ _ ⟨p, rfl, (sl.trans s2).nw hp, ?_, (upd_ne (ne_of_none (s2 _ _ upd_same) hp)).trans (s2 _ _ upd_same), fun z => by rw [z, s2 _ _ upd_same] at hp; cases hp⟩⟩⟩
        rw [show Txt.split (T (tSv hs)) (T [10]) = (lnSv hs).map T from tLn_spl hne2 fun l hl => by rw [tls_ln] at hmm; exact (hmm l hl).2.1, tls_ln]
        exact upd_same
  · rintro J H1 ⟨p, rfl, s1, ep, el, npl⟩
    have hn : ((((tls hs).map lnT).map T).map V.str).length = (tls hs).length := by rw [List.length_map, List.length_map, List.length_map]
    refine tFor_w (walk_list (a := p)) (fun R r => r) (fun i σ H' => (∃ x y z u, σ = [some (.str (T (tSv hs))), some (.ref l), x, y, z, u]) ∧ SameB l H1 H' ∧ ∃ es, PAt H' l es ∧ (∀ e ∈ es, H1 e.2.1 = none) ∧ (es.map (·.2.1)).Nodup ∧ es.map (·.2.2) = ((tls hs).take i).foldl gath [])
      ⟨⟨_, _, _, _, rfl⟩, SameB.refl _ _, [], ⟨el, fun _ z => nomatch z⟩, (fun _ z => nomatch z), List.nodup_nil, rfl⟩ (fun i σ H' _ q => SqL.of (q.2.1 _ _ npl ep)) ?_ ?_
    · rintro i x σ H2 H3 hi ⟨⟨u1, u2, u3, u4, rfl⟩, s2, es, pa, hq1, hq2, hes⟩ ⟨rfl, hx⟩
      rw [hn] at hi
      have hq : (tls hs)[i]? = some (tls hs)[i] := List.getElem?_eq_getElem hi
      generalize (tls hs)[i] = t at hq
      rw [List.getElem?_map, List.getElem?_map, List.getElem?_map, hq] at hx
      cases hx
      have hm := List.mem_of_getElem? hq
      have hbd := gaths_bd ((tls hs).take i) (k := 0) (acc := []) ⟨Nat.le_refl _, fun _ z => nomatch z⟩
      rw [← hes, List.length_take] at hbd
      have htk : ((tls hs).take (i + 1)).foldl gath [] = gath (es.map (·.2.2)) t := by
        rw [List.take_add_one, hq, List.foldl_append, hes]
        rfl
      rw [htk]
      have hlt := hmm _ (List.mem_map_of_mem hm)
      obtain ⟨wd, q, hp, hw⟩ := lnT_par t (fun r e => by subst e; exact tls_ok ok r hm)
      simp only [tSl, tPart, tNoPart, tCKw, tVals, gStar, gCons, gNil, StX.tStar, tFmtS, tFmtI, tM0, tJs, tM1, rNewStrs, tMatch, setAll, lit_to, lit_page, lit_section, lit_gone, lit_exact, lit_open, tSeq, tAsg, tIfS, tRet, tRetN, tDrop, tNext, tNever, tOr, tAnd, tNot, tB, tTest, tCB, tCons, tVar, tC, tNil, tOp, tUn, tIf, tAndV, tOrV, tNotV, tChain, tTup, tLst, tCallR, tMethN, tMakeN, tPropN, tYes, gName, cx_K, cx_P, cx_w, rI0, rI, rEq, rNe, List.getElem?_cons_zero, List.getElem?_cons_succ, List.set_cons_zero, List.set_cons_succ, Option.some.injEq, exists_eq_left', exists_eq_left, V.bl.injEq, V.int.injEq, V.str.injEq, V.ref.injEq, List.cons.injEq, and_true, true_and, exists_and_left, and_assoc, List.append_nil, gTup, gCons, gNil]
      rw [lx_sp, hp]
      refine ⟨⟨_, rfl⟩, by rw [T_len]; rfl, sz_T (by omega), fun p3 h3 => ⟨_, .inl (.inl upd_same), rfl, ?_⟩⟩
      have s4 := s2.nw (o := .tup [V.str (T wd), V.str (T [32]), V.str (T q)]) h3
      have s34 := (Same.refl H3).nw (o := .tup [V.str (T wd), V.str (T [32]), V.str (T q)]) h3
      have pa := pa.mono s34
      show ∃ v r, [V.str (T wd), V.str (T [32]), V.str (T q)] = v :: r ∧ _
      refine ⟨_, _, rfl, _, _, rfl, _, _, rfl, rfl, rfl, ?_⟩
      rw [lx_dayw]
      generalize upd H3 p3 (.tup [V.str (T wd), V.str (T [32]), V.str (T q)]) = H4 at s4 s34 pa
      cases t with
      | inl d =>
        obtain ⟨rfl, rfl⟩ := hw
        rw [if_pos (decide_eq_true rfl)]
        simp only [tSl, tPart, tNoPart, tCKw, tVals, gStar, gCons, gNil, StX.tStar, tFmtS, tFmtI, tM0, tJs, tM1, rNewStrs, tMatch, setAll, lit_to, lit_page, lit_section, lit_gone, lit_exact, lit_open, tSeq, tAsg, tIfS, tRet, tRetN, tDrop, tNext, tNever, tOr, tAnd, tNot, tB, tTest, tCB, tCons, tVar, tC, tNil, tOp, tUn, tIf, tAndV, tOrV, tNotV, tChain, tTup, tLst, tCallR, tMethN, tMakeN, tPropN, tYes, gName, cx_K, cx_P, cx_w, rI0, rI, rEq, rNe, List.getElem?_cons_zero, List.getElem?_cons_succ, List.set_cons_zero, List.set_cons_succ, Option.some.injEq, exists_eq_left', exists_eq_left, V.bl.injEq, V.int.injEq, V.str.injEq, V.ref.injEq, List.cons.injEq, and_true, true_and, exists_and_left, and_assoc, List.append_nil, tBM, rAppend]
        refine ⟨tyL pa.l, _, rfl, d, rfl, tls_day ok hm, fun H5 s5 => ⟨Nat.zero_le _, fun p hp => ⟨szl rfl, fun t ht => ?_⟩⟩⟩
        have s6 := (s5.nw (o := .lst []) hp).nw (o := .tup [.int (d : Int), .ref p]) ht
        have a := pa.mono s6
        have a5 := pa.mono s5
        have sb := ((s4.trans (s5.sb l)).nw (o := .lst []) hp).nw (o := .tup [.int (d : Int), .ref p]) ht
        have n1 := ne_of_none a5.l hp
        have n2 : t ≠ l := fun z => by rw [z, upd_ne n1, a5.l] at ht; cases ht
        have n3 : t ≠ p := fun z => by rw [z, upd_same] at ht; cases ht
        have hp1 : H1 p = none := by
          cases e : H1 p with
          | none => rfl
          | some o => have := s5 p o (s4 p o n1.symm e); rw [hp] at this; cases this
        refine ⟨_, a.l, ?_, ⟨_, rfl⟩, sb.self, es ++ [(t, p, d, [])], ⟨?_, ?_⟩, ?_, ?_, ?_⟩
        · have := hbd.1
          rw [List.length_map] at this ⊢
          exact Nat.lt_of_le_of_lt (show es.length ≤ 1000 by omega) (by decide)
        · rw [List.map_append]
          exact upd_same
        · intro e he
          rcases List.mem_append.mp he with he | he
          · have z1 := (a.t e he).1
            have z2 := (a.t e he).2
            refine ⟨(upd_ne fun z => ?_).trans z1, (upd_ne fun z => ?_).trans z2⟩
            · rw [z, a.l] at z1
              cases z1
            · have := hq1 e he
              rw [z, el] at this
              cases this
          · rw [List.mem_singleton.mp he]
            exact ⟨(upd_ne n2).trans upd_same, (upd_ne n1.symm).trans ((upd_ne n3.symm).trans upd_same)⟩
        · intro e he
          rcases List.mem_append.mp he with he | he
          · exact hq1 e he
          · rw [List.mem_singleton.mp he]
            exact hp1
        · rw [List.map_append]
          refine List.nodup_append.mpr ⟨hq2, List.nodup_cons.mpr ⟨List.not_mem_nil, List.nodup_nil⟩, ?_⟩
          intro x hx y hy z
          obtain ⟨e, he, rfl⟩ := List.mem_map.mp hx
          have := (a5.t e he).2
          rw [z, List.mem_singleton.mp hy] at this
          rw [hp] at this
          cases this
        · rw [List.map_append]
          rfl
      | inr r =>
        rw [if_neg (fun z => hw (T_inj (V.str.inj (of_decide_eq_true z))))]
        refine ⟨szl rfl, fun p hp => ?_⟩
        simp only [tSl, tPart, tNoPart, tCKw, tVals, gStar, gCons, gNil, StX.tStar, tFmtS, tFmtI, tM0, tJs, tM1, rNewStrs, tMatch, setAll, lit_to, lit_page, lit_section, lit_gone, lit_exact, lit_open, tSeq, tAsg, tIfS, tRet, tRetN, tDrop, tNext, tNever, tOr, tAnd, tNot, tB, tTest, tCB, tCons, tVar, tC, tNil, tOp, tUn, tIf, tAndV, tOrV, tNotV, tChain, tTup, tLst, tCallR, tMethN, tMakeN, tPropN, tYes, gName, cx_K, cx_P, cx_w, rI0, rI, rEq, rNe, List.getElem?_cons_zero, List.getElem?_cons_succ, List.set_cons_zero, List.set_cons_succ, Option.some.injEq, exists_eq_left', exists_eq_left, V.bl.injEq, V.int.injEq, V.str.injEq, V.ref.injEq, List.cons.injEq, and_true, true_and, exists_and_left, and_assoc, List.append_nil, tBM, rAppend, rEqNil, rU, rIxL, rIxT]
        have s6 := (Same.refl H4).nw (o := .lst []) hp
        have a := pa.mono s6
        have sb := s4.nw (o := .lst []) hp
        have ep5 := upd_same (H := H4) (a := p) (o := .lst [])
        generalize upd H4 p (.lst []) = H5 at s6 a sb ep5
        rcases List.eq_nil_or_concat es with e0 | ⟨ini, e, e0⟩
        · exact absurd (by rw [← hes, e0]; rfl) (tls_ne hq)
        rw [List.concat_eq_append] at e0
        subst e0
        have he := List.mem_append_right ini (List.mem_singleton.mpr (rfl : e = e))
        have h1 := (a.t e he).1
        have h2 := (a.t e he).2
        have al := a.l
        have ql := hq1 e he
        have nl : l ≠ e.2.1 := fun z => by rw [← z, el] at ql; cases ql
        have nq := hq2
        rw [List.map_append] at nq al
        have nq := (List.nodup_append.mp nq).2.2
        refine ⟨_, al, ep5, ?_⟩
        rw [if_neg (by cases ini <;> exact fun z => nomatch z)]
        refine ⟨_, SqL.of al, _, atI_last _ _, e.1, rfl, _, .inl (.inl h1), _, rfl, tyL h2, _, rfl, _, h2, ?_, ⟨_, rfl⟩, fun b o hb q => (upd_ne (ne_of_none q ql)).trans (sb b o hb q), ini ++ [(e.1, e.2.1, e.2.2.1, e.2.2.2 ++ [tR r])], ⟨?_, ?_⟩, ?_, ?_, ?_⟩
        · have := hbd.2 _ (List.mem_map_of_mem he)
          rw [List.length_map, List.length_map]
          exact Nat.lt_of_le_of_lt (show e.2.2.2.length ≤ 1000 by omega) (by decide)
        · rw [List.map_append]
          exact (upd_ne nl).trans al
        · intro f hf
          rcases List.mem_append.mp hf with hf | hf
          · have z := a.t f (List.mem_append_left _ hf)
            refine ⟨(upd_ne fun y => ?_).trans z.1, (upd_ne (nq _ (List.mem_map_of_mem hf) _ (List.mem_singleton.mpr rfl))).trans z.2⟩
            have z1 := z.1
            rw [y, h2] at z1
            cases z1
          · rw [List.mem_singleton.mp hf]
            refine ⟨(upd_ne fun y => ?_).trans h1, upd_same.trans ?_⟩
            · rw [y, h2] at h1
              cases h1
            · rw [List.map_append, List.map_append]
              rfl
        · intro f hf
          rcases List.mem_append.mp hf with hf | hf
          · exact hq1 f (List.mem_append_left _ hf)
          · rw [List.mem_singleton.mp hf]
            exact ql
        · rw [List.map_append] at hq2 ⊢
          exact hq2
        · rw [List.map_append, List.map_append]
          exact (gath_r _ _ _).symm
    · rintro σ H2 ⟨⟨u1, u2, u3, u4, rfl⟩, s2, es, pa, hq1, hq2, hes⟩
      rw [hn, List.take_length, gaths, List.nil_append] at hes
      simp only [tSl, tPart, tNoPart, tCKw, tVals, gStar, gCons, gNil, StX.tStar, tFmtS, tFmtI, tM0, tJs, tM1, rNewStrs, tMatch, setAll, lit_to, lit_page, lit_section, lit_gone, lit_exact, lit_open, tSeq, tAsg, tIfS, tRet, tRetN, tDrop, tNext, tNever, tOr, tAnd, tNot, tB, tTest, tCB, tCons, tVar, tC, tNil, tOp, tUn, tIf, tAndV, tOrV, tNotV, tChain, tTup, tLst, tCallR, tMethN, tMakeN, tPropN, tYes, gName, cx_K, cx_P, cx_w, rI0, rI, rEq, rNe, List.getElem?_cons_zero, List.getElem?_cons_succ, List.set_cons_zero, List.set_cons_succ, Option.some.injEq, exists_eq_left', exists_eq_left, V.bl.injEq, V.int.injEq, V.str.injEq, V.ref.injEq, List.cons.injEq, and_true, true_and, exists_and_left, and_assoc, List.append_nil]
      refine k l es H2 (fun b o e => s2 b o (ne_of_none e hl) (s1 b o e)) pa hes
theorem dle_trans {β : Type} (k : β → PyData) (a b c : β) (h1 : PySem.W.dataLe false k a b = true) (h2 : PySem.W.dataLe false k b c = true) : PySem.W.dataLe false k a c = true := by
  show (!PySem.W.dataLt (k c) (k a)) = true
  have h1 : (!PySem.W.dataLt (k b) (k a)) = true := h1
  have h2 : (!PySem.W.dataLt (k c) (k b)) = true := h2
  cases e : PySem.W.dataLt (k c) (k a) with
  | false => rfl
  | true =>
    rcases PyProof.Rows.lex_negTrans (O := PyProof.Rows.itemOrd) (PySem.W.keyToks (k c)) (PySem.W.keyToks (k b)) (PySem.W.keyToks (k a)) e with z | z
    · rw [show PySem.W.dataLt (k c) (k b) = true from z] at h2
      exact h2
    · rw [show PySem.W.dataLt (k b) (k a) = true from z] at h1
      exact h1
theorem dle_total {β : Type} (k : β → PyData) (a b : β) : (PySem.W.dataLe false k a b || PySem.W.dataLe false k b a) = true := by
  show ((!PySem.W.dataLt (k b) (k a)) || !PySem.W.dataLt (k a) (k b)) = true
  cases e : PySem.W.dataLt (k b) (k a) with
  | false => rfl
  | true =>
    cases e2 : PySem.W.dataLt (k a) (k b) with
    | false => rfl
    | true =>
      have := PyProof.Rows.lex_trans (O := PyProof.Rows.itemOrd) _ _ _ e e2
      rw [PyProof.Rows.lex_irrefl] at this
      cases this
theorem sortR_sorted (rs : List Ru) : (sortR rs).Pairwise fun a b => PySem.W.dataLe false kR a b = true := List.pairwise_mergeSort (dle_trans kR) (dle_total kR) rs
theorem sortR_idem (rs : List Ru) : sortR (sortR rs) = sortR rs := List.mergeSort_of_pairwise (sortR_sorted rs)
def srt (h : Nat × List Ru) : Nat × List Ru := (h.1, sortR h.2)
theorem lnSv_srt : ∀ hs : Hs, lnSv (hs.map srt) = lnSv hs
  | [] => rfl
  | h :: hs => by
    show lnH (srt h) ++ lnSv (hs.map srt) = lnH h ++ lnSv hs
    rw [lnSv_srt hs]
    congr 1
    show _ :: (sortR (sortR h.2)).map tR = _
    rw [sortR_idem]
    rfl
theorem map_srt1 (hs : Hs) : (hs.map srt).map (·.1) = hs.map (·.1) := by
  rw [List.map_map]
  rfl
theorem OkHs.srt {hs : Hs} (ok : OkHs hs) : OkHs (hs.map srt) := ⟨fun h hh => by
  obtain ⟨x, hx, rfl⟩ := List.mem_map.mp hh
  exact (ok.ok x hx).sort, fun h hh => by
  obtain ⟨x, hx, rfl⟩ := List.mem_map.mp hh
  exact ok.dy x hx, by rw [map_srt1]; exact ok.asc, by rw [List.length_map]; exact ok.hi⟩
theorem asc_take {hs : Hs} {i : Nat} {h : Nat × List Ru} (a : (hs.map (·.1)).Pairwise (· < ·)) (e : hs[i]? = some h) : ∀ x ∈ (hs.take i).map srt, x.1 < h.1 := by
  intro x hx
  obtain ⟨y, hy, rfl⟩ := List.mem_map.mp hx
  obtain ⟨j, hj⟩ := List.mem_iff_getElem?.mp hy
  rw [List.getElem?_take] at hj
  split at hj
  · rename_i hji
    obtain ⟨h1, e1⟩ := List.getElem?_eq_some_iff.mp hj
    obtain ⟨h2, e2⟩ := List.getElem?_eq_some_iff.mp e
    have := List.pairwise_iff_getElem.mp a j i (by rw [List.length_map]; exact h1) (by rw [List.length_map]; exact h2) hji
    rw [List.getElem_map, List.getElem_map, e1, e2] at this
    exact this
  · cases hj
abbrev N_read_server : List Str := ["text", "found", "day", "lines"]
theorem sc_read_server : FnScope N_read_server ["text"] (defScope s_read_server) := ⟨rfl, rfl, rfl, by decide +kernel, rfl, by decide +kernel, by decide +kernel⟩
theorem st_read_server (x0 : V) : L2.start N_read_server [x0] = [some x0, none, none, none] := rfl
def p_read_server : V → Hp → VK → Prop := fun v H Q => ∃ hs, v = .str (T (tSv hs)) ∧ OkHs hs ∧ ∀ a H', Same H H' → H a = none → SvAt P w K H' a (hs.map srt) → Q (.ref a) H'
theorem ok_read_server (L : Lw K mg) : FN P w K mg base 12 a_read_server (sp1 (p_read_server (P := P) (w := w) (K := K))) := by
  obtain ⟨fd, F⟩ := L.read_server
  refine fn_any F sc_read_server (len1 rfl) (fun _ _ _ _ _ _ us hl => match us, hl with | [_], _ => rfl) fun cdv A outer s H vs Q E hr h => ?_
  obtain ⟨_, rfl, hs, rfl, ok, k⟩ := h
  have nd := sc_read_server.nd
  refine ⟨_, (pss_cons (ps_if (pt_not (pt_val (pe_callB call_isi (by rfl) L.z_isinstance (by decide +kernel) (pa_cons (pv 0) (pa_cons (pe_bltn (v := .ty "str") (by rfl) L.z_str (by decide +kernel) rfl) pa_nil))))) (pss_one ps_never) pss_nil) (pss_cons (ps_set (i := 1) nd rfl (Or.inl rfl) (pe_mk0 L.mk_Server (ok_Server_init L) (hr.mono (by decide)) rfl L.g_Server)) (pss_cons (ps_try_thru0 (pss_one (ps_for PassesOwn.never rfl (pi_list (pe_g (ok_read_parts L) (hr.mono (by decide)) rfl L.g_read_parts L.read_parts.kp (pa_cons (pv 0) pa_nil))) (pg_tup rfl (pgs_cons (pg_name (i := 2) nd rfl (Or.inl rfl)) (pgs_cons (pg_name (i := 3) nd rfl (Or.inl rfl)) pgs_nil))) (pss_one (ps_expr (pe_m (pv 1) L.c_Server L.m_Server_set_table (ok_Server_set_table L) (hr.mono (by decide)) (pa_cons (pv 2) (pa_cons (pe_g (ok_read_table L) (hr.mono (by decide)) rfl L.g_read_table L.read_table.kp (pa_cons (pe_join pe_str (pv 3)) pa_nil)) pa_nil)))))))) (pss_cons (ps_if (pt_cmpR op_ne (pe_g (ok_server_text L) (hr.mono (by decide)) rfl L.g_server_text L.server_text.kp (pa_cons (pv 1) pa_nil)) (pv 0) (nomark _)) (pss_one ps_never) pss_nil) (pss_one (ps_ret (pv 1))))))), ?_⟩
  simp only [tSl, tPart, tNoPart, tCKw, tVals, gStar, gCons, gNil, StX.tStar, tFmtS, tFmtI, tM0, tJs, tM1, rNewStrs, tMatch, setAll, lit_to, lit_page, lit_section, lit_gone, lit_exact, lit_open, tAsg, tRet, tRetN, tDrop, tNext, tNever, tNot, tB, tTest, tCB, tCons, tVar, tC, tNil, tOp, tUn, tAndV, tOrV, tNotV, tChain, tTup, tLst, tCallR, tMethN, tMakeN, tPropN, tYes, gName, cx_K, cx_P, cx_w, rI0, rI, rEq, rNe, List.getElem?_cons_zero, List.getElem?_cons_succ, List.set_cons_zero, List.set_cons_succ, Option.some.injEq, exists_eq_left', exists_eq_left, V.bl.injEq, V.int.injEq, V.str.injEq, V.ref.injEq, List.cons.injEq, and_true, true_and, exists_and_left, and_assoc, List.append_nil, st_read_server]
  refine sif_nx (fun R r => ?_) fun H1 s1 => ?_
  · simp only [tSl, tPart, tNoPart, tCKw, tVals, gStar, gCons, gNil, StX.tStar, tFmtS, tFmtI, tM0, tJs, tM1, rNewStrs, tMatch, setAll, lit_to, lit_page, lit_section, lit_gone, lit_exact, lit_open, tSeq, tAsg, tIfS, tRet, tRetN, tDrop, tNext, tNever, tOr, tAnd, tNot, tB, tTest, tCB, tCons, tVar, tC, tNil, tOp, tUn, tIf, tAndV, tOrV, tNotV, tChain, tTup, tLst, tCallR, tMethN, tMakeN, tPropN, tYes, gName, cx_K, cx_P, cx_w, rI0, rI, rEq, rNe, List.getElem?_cons_zero, List.getElem?_cons_succ, List.set_cons_zero, List.set_cons_succ, Option.some.injEq, exists_eq_left', exists_eq_left, V.bl.injEq, V.int.injEq, V.str.injEq, V.ref.injEq, List.cons.injEq, and_true, true_and, exists_and_left, and_assoc, List.append_nil]
    exact isi_ty (.base (.str _)) kb_ss ⟨true, rfl, r H (Same.refl _)⟩
  simp only [tSl, tPart, tNoPart, tCKw, tVals, gStar, gCons, gNil, StX.tStar, tFmtS, tFmtI, tM0, tJs, tM1, rNewStrs, tMatch, setAll, lit_to, lit_page, lit_section, lit_gone, lit_exact, lit_open, tSeq, tAsg, tIfS, tRet, tRetN, tDrop, tNext, tNever, tOr, tAnd, tNot, tB, tTest, tCB, tCons, tVar, tC, tNil, tOp, tUn, tIf, tAndV, tOrV, tNotV, tChain, tTup, tLst, tCallR, tMethN, tMakeN, tPropN, tYes, gName, cx_K, cx_P, cx_w, rI0, rI, rEq, rNe, List.getElem?_cons_zero, List.getElem?_cons_succ, List.set_cons_zero, List.set_cons_succ, Option.some.injEq, exists_eq_left', exists_eq_left, V.bl.injEq, V.int.injEq, V.str.injEq, V.ref.injEq, List.cons.injEq, and_true, true_and, exists_and_left, and_assoc, List.append_nil]
  intro a dx ha hdx hne
  have s2 := (s1.nw (o := .own a) hdx).nw (o := .ins a_Server dx []) ((upd_ne hne.symm).trans ha)
  refine ⟨_, rfl, a, dx, rfl, upd_same, fun H2 sb2 hv => ⟨rfl, ?_⟩⟩
  have s3 : Same H H2 := fun b o e => sb2 b o (ne_of_none (s1 b o e) ha) (s2 b o e)
  have hk := ok.hi
  refine tFor_cut (Src := fun J H3 => ∃ l es, J = Itl K l ∧ Same H2 H3 ∧ PAt H3 l es ∧ es.map (·.2.2) = hs.map prt) (fun R r => ?_) ?_
  · simp only [tSl, tPart, tNoPart, tCKw, tVals, gStar, gCons, gNil, StX.tStar, tFmtS, tFmtI, tM0, tJs, tM1, rNewStrs, tMatch, setAll, lit_to, lit_page, lit_section, lit_gone, lit_exact, lit_open, tSeq, tAsg, tIfS, tRet, tRetN, tDrop, tNext, tNever, tOr, tAnd, tNot, tB, tTest, tCB, tCons, tVar, tC, tNil, tOp, tUn, tIf, tAndV, tOrV, tNotV, tChain, tTup, tLst, tCallR, tMethN, tMakeN, tPropN, tYes, gName, cx_K, cx_P, cx_w, rI0, rI, rEq, rNe, List.getElem?_cons_zero, List.getElem?_cons_succ, List.set_cons_zero, List.set_cons_succ, Option.some.injEq, exists_eq_left', exists_eq_left, V.bl.injEq, V.int.injEq, V.str.injEq, V.ref.injEq, List.cons.injEq, and_true, true_and, exists_and_left, and_assoc, List.append_nil, iList]
    exact ⟨_, rfl, hs, rfl, ok, fun l es H3 s pa e => ⟨_, rfl, ⟨_, SqL.of pa.l⟩, r _ _ ⟨l, es, rfl, s, pa, e⟩⟩⟩
  · rintro J H3 ⟨l, es, rfl, s4, pa, hes⟩
    have hlen : es.length = hs.length := by
      have := congrArg List.length hes
      rw [List.length_map, List.length_map] at this
      exact this
    obtain ⟨dx0, p0, t0, ts0, h1, h2⟩ := hv.mono s4
    refine tFor_w (walk_list (a := l)) (fun R r => r) (fun i σ H' => (∃ x y, σ = [some (.str (T (tSv hs))), some (.ref a), x, y]) ∧ SameB a H3 H' ∧ SvAt P w K H' a ((hs.take i).map srt))
      ⟨⟨_, _, rfl⟩, SameB.refl _ _, hv.mono s4⟩ (fun i σ H' _ q => SqL.of (q.2.1 _ _ (fun z => by have := pa.l; rw [z, h1] at this; cases this) pa.l)) ?_ ?_
    · rintro i x σ H4 H5 hi ⟨⟨u1, u2, rfl⟩, s5, hv5⟩ ⟨rfl, hx⟩
      rw [List.length_map, hlen] at hi
      have hq : hs[i]? = some hs[i] := List.getElem?_eq_getElem hi
      generalize hs[i] = h at hq
      rw [List.getElem?_map] at hx
      obtain ⟨e, he, rfl⟩ := Option.map_eq_some_iff.mp hx
      have hep : e.2.2 = prt h := by
        have := congrArg (fun z => z[i]?) hes
        simp only [List.getElem?_map, he, hq, Option.map_some, Option.some.injEq] at this
        exact this
      have hm := List.mem_of_getElem? hq
      have z := pa.t e (List.mem_of_getElem? he)
      rw [hep] at z
      have z1 := s5 _ _ (fun y => by have := z.1; rw [y, h1] at this; cases this) z.1
      have z2 := s5 _ _ (fun y => by have := z.2; rw [y, h1] at this; cases this) z.2
      have oks := (ok.ok h hm).sort
      simp only [tSl, tPart, tNoPart, tCKw, tVals, gStar, gCons, gNil, StX.tStar, tFmtS, tFmtI, tM0, tJs, tM1, rNewStrs, tMatch, setAll, lit_to, lit_page, lit_section, lit_gone, lit_exact, lit_open, tSeq, tAsg, tIfS, tRet, tRetN, tDrop, tNext, tNever, tOr, tAnd, tNot, tB, tTest, tCB, tCons, tVar, tC, tNil, tOp, tUn, tIf, tAndV, tOrV, tNotV, tChain, tTup, tLst, tCallR, tMethN, tMakeN, tPropN, tYes, gName, cx_K, cx_P, cx_w, rI0, rI, rEq, rNe, List.getElem?_cons_zero, List.getElem?_cons_succ, List.set_cons_zero, List.set_cons_succ, Option.some.injEq, exists_eq_left', exists_eq_left, V.bl.injEq, V.int.injEq, V.str.injEq, V.ref.injEq, List.cons.injEq, and_true, true_and, exists_and_left, and_assoc, List.append_nil, gTup, gCons, gNil]
      obtain ⟨dx5, p5, t5, ts5, h51, h52⟩ := id hv5
      refine ⟨_, .inl (.inl z1), rfl, _, _, rfl, _, _, rfl, rfl, dx5, _, h51, rfl, ⟨_, rfl⟩, _, rfl, _, .inl (SqL.of z2), ?_, ?_⟩
      · rw [lx_nl]
        exact join_len (rus_lens oks.ok) (by decide) (by rw [show (prt h).2.length = (sortR h.2).length from List.length_map ..]; have := oks.hi; omega)
      · rw [lx_nl, join_T]
        refine ⟨_, rfl, sortR h.2, rfl, oks, sortR_idem _, fun tv H6 s6 ht => ⟨_, _, _, rfl, a, _, h.1, sortR h.2, rfl, rfl, hv5.mono s6, ht, ok.dy h hm, asc_take ok.asc hq, ?_, fun H7 s7 hv7 => ⟨⟨_, rfl⟩, (s5.trans (s6.sb a)).trans s7, ?_⟩⟩⟩
        · rw [List.length_map, List.length_take]
          omega
        · rw [List.take_add_one, hq, List.map_append]
          exact SvX.at hv7
    · rintro σ H4 ⟨⟨u1, u2, rfl⟩, s5, hv5⟩
      rw [List.length_map, hlen, List.take_length] at hv5
      simp only [tSl, tPart, tNoPart, tCKw, tVals, gStar, gCons, gNil, StX.tStar, tFmtS, tFmtI, tM0, tJs, tM1, rNewStrs, tMatch, setAll, lit_to, lit_page, lit_section, lit_gone, lit_exact, lit_open, tSeq, tAsg, tIfS, tRet, tRetN, tDrop, tNext, tNever, tOr, tAnd, tNot, tB, tTest, tCB, tCons, tVar, tC, tNil, tOp, tUn, tIf, tAndV, tOrV, tNotV, tChain, tTup, tLst, tCallR, tMethN, tMakeN, tPropN, tYes, gName, cx_K, cx_P, cx_w, rI0, rI, rEq, rNe, List.getElem?_cons_zero, List.getElem?_cons_succ, List.set_cons_zero, List.set_cons_succ, Option.some.injEq, exists_eq_left', exists_eq_left, V.bl.injEq, V.int.injEq, V.str.injEq, V.ref.injEq, List.cons.injEq, and_true, true_and, exists_and_left, and_assoc, List.append_nil]
      refine ⟨_, rfl, a, _, rfl, hv5, ok.srt, fun H5 s6 => ?_⟩
      show scal _ _ = true ∧ (if (!decide (V.str (T (tSv (hs.map srt))) = V.str (T (tSv hs)))) = true then False else _)
      rw [show tSv (hs.map srt) = tSv hs from congrArg tLn (lnSv_srt hs), decide_eq_true rfl]
      have s8 : Same H2 H3 := s4
      exact ⟨rfl, k a H5 (fun b o e => s6 _ _ (s5 b o (ne_of_none (s1 b o e) ha) (s4 _ _ (s3 b o e)))) (by cases e : H a with | none => rfl | some o => have := s1 a o e; rw [ha] at this; cases this) (hv5.mono s6)⟩
end
end K88
set_option maxHeartbeats 4000000
/-! The texts of sites, and their reading. -/
namespace K88
open PySem PySem.Spec PyProof.Rows L2
/-- the word before a place -/
def prep : Vb → Wd
  | .move => sTo
  | _ => sAt
def wEv : Ev → List (List Nat)
  | .pl k d s n p => [dg d, k.w, sortN s, n, prep k, tAd p]
  | .merge d s n o => [dg d, sMerge, sortN s, n, sInto, o]
  | .take d s n => [dg d, sTake, sortN s, n]
def tEv (e : Ev) : List Nat := TL.joinL [32] (wEv e)
def tSt (es : List Ev) : List Nat := tLn (es.map tEv)
theorem lx_put : Str.ofString "put" = T sPut := by decide +kernel
theorem lx_move : Str.ofString "move" = T sMove := by decide +kernel
theorem lx_merge : Str.ofString "merge" = T sMerge := by decide +kernel
theorem lx_bring : Str.ofString "bring" = T sBring := by decide +kernel
theorem lx_take : Str.ofString "take" = T sTake := by decide +kernel
theorem lx_toW : Str.ofString "to" = T sTo := by decide +kernel
theorem lx_at : Str.ofString "at" = T sAt := by decide +kernel
theorem lx_into : Str.ofString "into" = T sInto := by decide +kernel
theorem lx_page : Str.ofString "page" = T sPage := by decide +kernel
theorem lx_section : Str.ofString "section" = T sSection := by decide +kernel
theorem ly_take : Str.ofString " take " = T (32 :: (sTake ++ [32])) := by decide +kernel
theorem ly_merge : Str.ofString " merge " = T (32 :: (sMerge ++ [32])) := by decide +kernel
theorem ly_move : Str.ofString " move " = T (32 :: (sMove ++ [32])) := by decide +kernel
theorem ly_into : Str.ofString " into " = T (32 :: (sInto ++ [32])) := by decide +kernel
theorem ly_to : Str.ofString " to " = T (32 :: (sTo ++ [32])) := by decide +kernel
theorem ly_at : Str.ofString " at " = T (32 :: (sAt ++ [32])) := by decide +kernel
theorem val_noW {σ : L2.St} {H : Hp} {a b : Wd} {x : String} (h : Str.ofString x = T b) (n : a ≠ b) : PNo (tPVal rEq (tC (.str (Str.ofString x)))) (vW a) σ H := val_no rfl fun e => n (T_inj ((V.str.inj e).trans h))
theorem val_yesW {σ : L2.St} {H : Hp} {a : Wd} {x : String} (h : Str.ofString x = T a) : PYes (tPVal rEq (tC (.str (Str.ofString x)))) (vW a) σ H [] := val_yes rfl (congrArg V.str h.symm)
theorem sortN_len (s : Bool) : (sortN s).length ≤ 7 := by cases s <;> decide
theorem Vb_len (k : Vb) : k.w.length ≤ 5 := by cases k <;> decide
theorem tEv_len {e : Ev} (ok : OkEv e) : (tEv e).length ≤ 130 := by
  cases e with
  | pl k d s n p =>
    have h1 := dg_len7 (n := d) (by have := ok.1; omega)
    have h2 := sortN_len s
    have h3 := ok.2.1.hi
    have h4 := tAd_len ok.2.2
    have h5 := Vb_len k
    have h6 : (prep k).length ≤ 2 := by cases k <;> decide
    simp only [tEv, wEv, TL.joinL, List.length_append, List.length_cons, List.length_nil]
    omega
  | merge d s n o =>
    have h1 := dg_len7 (n := d) (by have := ok.1; omega)
    have h2 := sortN_len s
    have h3 := ok.2.1.hi
    have h4 := ok.2.2.hi
    simp only [tEv, wEv, TL.joinL, List.length_append, List.length_cons, List.length_nil, sMerge, sInto]
    omega
  | take d s n =>
    have h1 := dg_len7 (n := d) (by have := ok.1; omega)
    have h2 := sortN_len s
    have h3 := ok.2.hi
    simp only [tEv, wEv, TL.joinL, List.length_append, List.length_cons, List.length_nil, sTake]
    omega
theorem wEv_free {e : Ev} (ok : OkEv e) {c : Nat} (hc : c < 47) : ∀ w ∈ wEv e, c ∉ w := by
  have lit : ∀ l : List Nat, l.all (fun x => decide (97 ≤ x)) = true → c ∉ l := fun l h m => by
    have := of_decide_eq_true (List.all_eq_true.mp h c m)
    omega
  have hso : ∀ s, c ∉ sortN s := fun s => by cases s <;> exact lit _ rfl
  cases e with
  | pl k d s n p =>
    intro w hw
    simp only [wEv, List.mem_cons, List.not_mem_nil, or_false] at hw
    rcases hw with rfl | rfl | rfl | rfl | rfl | rfl
    · exact dg_free (by omega)
    · cases k <;> exact lit _ rfl
    · exact hso s
    · exact ok.2.1.free (by omega)
    · cases k <;> exact lit _ rfl
    · exact tAd_free ok.2.2 (by omega) (by omega)
  | merge d s n o =>
    intro w hw
    simp only [wEv, List.mem_cons, List.not_mem_nil, or_false] at hw
    rcases hw with rfl | rfl | rfl | rfl | rfl | rfl
    · exact dg_free (by omega)
    · exact lit _ rfl
    · exact hso s
    · exact ok.2.1.free (by omega)
    · exact lit _ rfl
    · exact ok.2.2.free (by omega)
  | take d s n =>
    intro w hw
    simp only [wEv, List.mem_cons, List.not_mem_nil, or_false] at hw
    rcases hw with rfl | rfl | rfl | rfl
    · exact dg_free (by omega)
    · exact lit _ rfl
    · exact hso s
    · exact ok.2.free (by omega)
theorem wEv_ne (e : Ev) : wEv e ≠ [] := by cases e <;> exact List.cons_ne_nil _ _
theorem tEv_nl {e : Ev} (ok : OkEv e) : 10 ∉ tEv e := joinL_free (by decide) (wEv_free ok (by decide))
theorem tEv_spl {e : Ev} (ok : OkEv e) : Txt.split (T (tEv e)) (T [32]) = (wEv e).map T := by
  rw [show T = SX.S from rfl, SX.split_S (by decide) (by decide)]
  exact congrArg (List.map SX.S) (TL.spl_join (wEv_ne e) (wEv_free ok (by decide)))
theorem tEv_ne (e : Ev) : tEv e ≠ [] := by
  cases e <;> exact fun z => dg_ne _ (List.append_eq_nil_iff.mp z).1
theorem evs_lens {es : List Ev} (ok : ∀ e ∈ es, OkEv e) : ∀ l ∈ es.map tEv, l.length ≤ 130 := fun l hl => by
  obtain ⟨e, he, rfl⟩ := List.mem_map.mp hl
  exact tEv_len (ok e he)
section
variable {P : Program} {w : World} {K : PySem.W.Frag} {mg : Str → Option Value} {base : Heap}
abbrev N_event_text : List Str := ["event", "day", "sort", "name", "other", "place"]
theorem sc_event_text : FnScope N_event_text ["event"] (defScope s_event_text) := ⟨rfl, rfl, rfl, by decide +kernel, rfl, by decide +kernel, by decide +kernel⟩
theorem st_event_text (x0 : V) : L2.start N_event_text [x0] = [some x0, none, none, none, none, none] := rfl
def p_event_text : V → Hp → VK → Prop := fun v H Q => ∃ e, EvAt K H v e ∧ OkEv e ∧ RetV H Q (.str (T (tEv e)))
theorem ok_event_text (L : Lw K mg) : FN P w K mg base 3 a_event_text (sp1 (p_event_text (K := K))) := by
  obtain ⟨fd, F⟩ := L.event_text
  refine fn_any F sc_event_text (len1 rfl) (fun _ _ _ _ _ _ us hl => match us, hl with | [_], _ => rfl) fun cdv A outer s H vs Q E hr h => ?_
  obtain ⟨v, rfl, e, he, ok, k⟩ := h
  have nd := sc_event_text.nd
  refine ⟨_, (pss_cons (ps_match (pv 0) (pcs_cons (is := [1, 2, 3]) nd (pm_seq rfl (pms_cons pm_cap (pms_cons (pm_val op_eq pe_str) (pms_cons pm_cap (pms_cons pm_cap pms_nil))))) ⟨rfl, .inl rfl, .inl rfl, rfl, .inl rfl, .inl rfl, rfl, .inl rfl, .inl rfl, trivial⟩ (pss_one (ps_ret (pe_joined (.cons (pe_fmtI (pv 1)) (.cons pe_str (.cons (pe_fmtS (pv 2)) (.cons pe_str (.cons (pe_fmtS (pv 3)) .nil)))))))) (pcs_cons (is := [1, 2, 3, 4]) nd (pm_seq rfl (pms_cons pm_cap (pms_cons (pm_val op_eq pe_str) (pms_cons pm_cap (pms_cons pm_cap (pms_cons pm_cap pms_nil)))))) ⟨rfl, .inl rfl, .inl rfl, rfl, .inl rfl, .inl rfl, rfl, .inl rfl, .inl rfl, rfl, .inl rfl, .inl rfl, trivial⟩ (pss_one (ps_ret (pe_joined (.cons (pe_fmtI (pv 1)) (.cons pe_str (.cons (pe_fmtS (pv 2)) (.cons pe_str (.cons (pe_fmtS (pv 3)) (.cons pe_str (.cons (pe_fmtS (pv 4)) .nil)))))))))) (pcs_cons (is := [1, 2, 3, 5]) nd (pm_seq rfl (pms_cons pm_cap (pms_cons (pm_val op_eq pe_str) (pms_cons pm_cap (pms_cons pm_cap (pms_cons pm_cap pms_nil)))))) ⟨rfl, .inl rfl, .inl rfl, rfl, .inl rfl, .inl rfl, rfl, .inl rfl, .inl rfl, rfl, .inl rfl, .inl rfl, trivial⟩ (pss_one (ps_ret (pe_joined (.cons (pe_fmtI (pv 1)) (.cons pe_str (.cons (pe_fmtS (pv 2)) (.cons pe_str (.cons (pe_fmtS (pv 3)) (.cons pe_str (.cons (pe_fmtS (pe_g (ok_address_text L) (hr.mono (by decide)) rfl L.g_address_text L.address_text.kp (pa_cons (pv 5) pa_nil))) .nil)))))))))) pcs_nil)))) (pss_one (ps_ret (pe_joined (.cons (pe_fmtI (pe_ix (ix_tupK (K := K) rfl) (pv 0) pe_int (fun _ _ => rfl))) (.cons pe_str (.cons (pe_fmtS (pe_ix (ix_tupK (K := K) rfl) (pv 0) pe_int (fun _ _ => rfl))) (.cons pe_str (.cons (pe_fmtS (pe_ix (ix_tupK (K := K) rfl) (pv 0) pe_int (fun _ _ => rfl))) (.cons pe_str (.cons (pe_fmtS (pe_ix (ix_tupK (K := K) rfl) (pv 0) pe_int (fun _ _ => rfl))) (.cons pe_str (.cons (pe_fmtS (pe_g (ok_address_text L) (hr.mono (by decide)) rfl L.g_address_text L.address_text.kp (pa_cons (pe_ix (ix_tupK (K := K) rfl) (pv 0) pe_int (fun _ _ => rfl)) pa_nil))) .nil))))))))))))), ?_⟩
  simp only [tSl, tPart, tNoPart, tCKw, tVals, gStar, gCons, gNil, StX.tStar, tFmtS, tFmtI, tM0, tJs, tM1, rNewStrs, tMatch, setAll, lit_to, lit_page, lit_section, lit_gone, lit_exact, lit_open, tSeq, tAsg, tIfS, tRet, tRetN, tDrop, tNext, tNever, tOr, tAnd, tNot, tB, tTest, tCB, tCons, tVar, tC, tNil, tOp, tUn, tIf, tAndV, tOrV, tNotV, tChain, tTup, tLst, tCallR, tMethN, tMakeN, tPropN, tYes, gName, cx_K, cx_P, cx_w, rI0, rI, rEq, rNe, List.getElem?_cons_zero, List.getElem?_cons_succ, List.set_cons_zero, List.set_cons_succ, Option.some.injEq, exists_eq_left', exists_eq_left, V.bl.injEq, V.int.injEq, V.str.injEq, V.ref.injEq, List.cons.injEq, and_true, true_and, exists_and_left, and_assoc, List.append_nil, st_event_text]
  cases e with
  | take d so n =>
    obtain ⟨p, rfl, q⟩ := he
    obtain ⟨hd, hn⟩ := ok
    refine case_yes (seq_yes (.inl q) rfl (pcons_yes cap_yes (pcons_yes (val_yesW lx_take) (pcons_yes cap_yes (pcons_yes cap_yes pnil))))) ?_
    simp only [tSl, tPart, tNoPart, tCKw, tVals, gStar, gCons, gNil, StX.tStar, tFmtS, tFmtI, tM0, tJs, tM1, rNewStrs, tMatch, setAll, lit_to, lit_page, lit_section, lit_gone, lit_exact, lit_open, tSeq, tAsg, tIfS, tRet, tRetN, tDrop, tNext, tNever, tOr, tAnd, tNot, tB, tTest, tCB, tCons, tVar, tC, tNil, tOp, tUn, tIf, tAndV, tOrV, tNotV, tChain, tTup, tLst, tCallR, tMethN, tMakeN, tPropN, tYes, gName, cx_K, cx_P, cx_w, rI0, rI, rEq, rNe, List.getElem?_cons_zero, List.getElem?_cons_succ, List.set_cons_zero, List.set_cons_succ, Option.some.injEq, exists_eq_left', exists_eq_left, V.bl.injEq, V.int.injEq, V.str.injEq, V.ref.injEq, List.cons.injEq, and_true, true_and, exists_and_left, and_assoc, List.append_nil, List.nil_append, List.cons_append]
    have h7 := dg_len7 (n := d) (by omega)
    have hs := sortN_len so
    have h1 := hn.hi
    simp only [ly_take, ly_merge, ly_move, ly_into, ly_to, ly_at, lx_sp, empT, T_cat, num_T, List.nil_append]
    refine ⟨log_lt (by omega), sz_T (by first | omega | (simp only [List.length_append, List.length_cons, List.length_nil, sTake, sMerge, sMove, sTo, sInto, sAt]; omega)), sz_T (by first | omega | (simp only [List.length_append, List.length_cons, List.length_nil, sTake, sMerge, sMove, sTo, sInto, sAt]; omega)), _, rfl, sz_T (by first | omega | (simp only [List.length_append, List.length_cons, List.length_nil, sTake, sMerge, sMove, sTo, sInto, sAt]; omega)), ?_⟩
    simp only [T_cat]
    refine ⟨sz_T (by first | omega | (simp only [List.length_append, List.length_cons, List.length_nil, sTake, sMerge, sMove, sTo, sInto, sAt]; omega)), sz_T (by first | omega | (simp only [List.length_append, List.length_cons, List.length_nil, sTake, sMerge, sMove, sTo, sInto, sAt]; omega)), _, rfl, sz_T (by first | omega | (simp only [List.length_append, List.length_cons, List.length_nil, sTake, sMerge, sMove, sTo, sInto, sAt]; omega)), ?_⟩
    simp only [T_cat]
    refine ⟨sz_T (by first | omega | (simp only [List.length_append, List.length_cons, List.length_nil, sTake, sMerge, sMove, sTo, sInto, sAt]; omega)), ?_⟩
    simpa only [tEv, wEv, TL.joinL, prep, Vb.w, List.append_assoc, List.cons_append, List.nil_append] using k H (Same.refl H)
  | merge d so n o =>
    obtain ⟨p, rfl, q⟩ := he
    obtain ⟨hd, hn, ho⟩ := ok
    refine case_no (seq_len (.inl q) (nel rfl)) ?_
    refine case_yes (seq_yes (.inl q) rfl (pcons_yes cap_yes (pcons_yes (val_yesW lx_merge) (pcons_yes cap_yes (pcons_yes cap_yes (pcons_yes cap_yes pnil)))))) ?_
    simp only [tSl, tPart, tNoPart, tCKw, tVals, gStar, gCons, gNil, StX.tStar, tFmtS, tFmtI, tM0, tJs, tM1, rNewStrs, tMatch, setAll, lit_to, lit_page, lit_section, lit_gone, lit_exact, lit_open, tSeq, tAsg, tIfS, tRet, tRetN, tDrop, tNext, tNever, tOr, tAnd, tNot, tB, tTest, tCB, tCons, tVar, tC, tNil, tOp, tUn, tIf, tAndV, tOrV, tNotV, tChain, tTup, tLst, tCallR, tMethN, tMakeN, tPropN, tYes, gName, cx_K, cx_P, cx_w, rI0, rI, rEq, rNe, List.getElem?_cons_zero, List.getElem?_cons_succ, List.set_cons_zero, List.set_cons_succ, Option.some.injEq, exists_eq_left', exists_eq_left, V.bl.injEq, V.int.injEq, V.str.injEq, V.ref.injEq, List.cons.injEq, and_true, true_and, exists_and_left, and_assoc, List.append_nil, List.nil_append, List.cons_append]
    have h7 := dg_len7 (n := d) (by omega)
    have hs := sortN_len so
    have h1 := hn.hi
    have h2 := ho.hi
    simp only [ly_take, ly_merge, ly_move, ly_into, ly_to, ly_at, lx_sp, empT, T_cat, num_T, List.nil_append]
    refine ⟨log_lt (by omega), sz_T (by first | omega | (simp only [List.length_append, List.length_cons, List.length_nil, sTake, sMerge, sMove, sTo, sInto, sAt]; omega)), sz_T (by first | omega | (simp only [List.length_append, List.length_cons, List.length_nil, sTake, sMerge, sMove, sTo, sInto, sAt]; omega)), _, rfl, sz_T (by first | omega | (simp only [List.length_append, List.length_cons, List.length_nil, sTake, sMerge, sMove, sTo, sInto, sAt]; omega)), ?_⟩
    simp only [T_cat]
    refine ⟨sz_T (by first | omega | (simp only [List.length_append, List.length_cons, List.length_nil, sTake, sMerge, sMove, sTo, sInto, sAt]; omega)), sz_T (by first | omega | (simp only [List.length_append, List.length_cons, List.length_nil, sTake, sMerge, sMove, sTo, sInto, sAt]; omega)), _, rfl, sz_T (by first | omega | (simp only [List.length_append, List.length_cons, List.length_nil, sTake, sMerge, sMove, sTo, sInto, sAt]; omega)), ?_⟩
    simp only [T_cat]
    refine ⟨sz_T (by first | omega | (simp only [List.length_append, List.length_cons, List.length_nil, sTake, sMerge, sMove, sTo, sInto, sAt]; omega)), sz_T (by first | omega | (simp only [List.length_append, List.length_cons, List.length_nil, sTake, sMerge, sMove, sTo, sInto, sAt]; omega)), _, rfl, sz_T (by first | omega | (simp only [List.length_append, List.length_cons, List.length_nil, sTake, sMerge, sMove, sTo, sInto, sAt]; omega)), ?_⟩
    simp only [T_cat]
    refine ⟨sz_T (by first | omega | (simp only [List.length_append, List.length_cons, List.length_nil, sTake, sMerge, sMove, sTo, sInto, sAt]; omega)), ?_⟩
    simpa only [tEv, wEv, TL.joinL, prep, Vb.w, List.append_assoc, List.cons_append, List.nil_append] using k H (Same.refl H)
  | pl b d so n p =>
    obtain ⟨t, u, rfl, q, hu⟩ := he
    obtain ⟨hd, hn, hp⟩ := ok
    have h7 := dg_len7 (n := d) (by omega)
    have hs := sortN_len so
    have h1 := hn.hi
    have h2 := tAd_len hp
    refine case_no (seq_len (.inl q) (nel rfl)) ?_
    refine case_no (seq_no (.inl q) rfl (pcons_no2 cap_yes (pcons_no1 (val_noW lx_merge (by cases b <;> decide))))) ?_
    by_cases hb : b = .move
    · subst hb
      refine case_yes (seq_yes (.inl q) rfl (pcons_yes cap_yes (pcons_yes (val_yesW lx_move) (pcons_yes cap_yes (pcons_yes cap_yes (pcons_yes cap_yes pnil)))))) ?_
      simp only [tSl, tPart, tNoPart, tCKw, tVals, gStar, gCons, gNil, StX.tStar, tFmtS, tFmtI, tM0, tJs, tM1, rNewStrs, tMatch, setAll, lit_to, lit_page, lit_section, lit_gone, lit_exact, lit_open, tSeq, tAsg, tIfS, tRet, tRetN, tDrop, tNext, tNever, tOr, tAnd, tNot, tB, tTest, tCB, tCons, tVar, tC, tNil, tOp, tUn, tIf, tAndV, tOrV, tNotV, tChain, tTup, tLst, tCallR, tMethN, tMakeN, tPropN, tYes, gName, cx_K, cx_P, cx_w, rI0, rI, rEq, rNe, List.getElem?_cons_zero, List.getElem?_cons_succ, List.set_cons_zero, List.set_cons_succ, Option.some.injEq, exists_eq_left', exists_eq_left, V.bl.injEq, V.int.injEq, V.str.injEq, V.ref.injEq, List.cons.injEq, and_true, true_and, exists_and_left, and_assoc, List.append_nil, List.nil_append, List.cons_append]
      simp only [ly_take, ly_merge, ly_move, ly_into, ly_to, ly_at, lx_sp, empT, T_cat, num_T, List.nil_append]
      refine ⟨log_lt (by omega), sz_T (by first | omega | (simp only [List.length_append, List.length_cons, List.length_nil, sTake, sMerge, sMove, sTo, sInto, sAt]; omega)), sz_T (by first | omega | (simp only [List.length_append, List.length_cons, List.length_nil, sTake, sMerge, sMove, sTo, sInto, sAt]; omega)), _, rfl, sz_T (by first | omega | (simp only [List.length_append, List.length_cons, List.length_nil, sTake, sMerge, sMove, sTo, sInto, sAt]; omega)), ?_⟩
      simp only [T_cat]
      refine ⟨sz_T (by first | omega | (simp only [List.length_append, List.length_cons, List.length_nil, sTake, sMerge, sMove, sTo, sInto, sAt]; omega)), sz_T (by first | omega | (simp only [List.length_append, List.length_cons, List.length_nil, sTake, sMerge, sMove, sTo, sInto, sAt]; omega)), _, rfl, sz_T (by first | omega | (simp only [List.length_append, List.length_cons, List.length_nil, sTake, sMerge, sMove, sTo, sInto, sAt]; omega)), ?_⟩
      simp only [T_cat]
      refine ⟨sz_T (by first | omega | (simp only [List.length_append, List.length_cons, List.length_nil, sTake, sMerge, sMove, sTo, sInto, sAt]; omega)), sz_T (by first | omega | (simp only [List.length_append, List.length_cons, List.length_nil, sTake, sMerge, sMove, sTo, sInto, sAt]; omega)), _, rfl, p, hu, hp, fun H1 s1 => ⟨_, rfl, sz_T (by first | omega | (simp only [List.length_append, List.length_cons, List.length_nil, sTake, sMerge, sMove, sTo, sInto, sAt]; omega)), ?_⟩⟩
      simp only [T_cat]
      refine ⟨sz_T (by first | omega | (simp only [List.length_append, List.length_cons, List.length_nil, sTake, sMerge, sMove, sTo, sInto, sAt]; omega)), ?_⟩
      simpa only [tEv, wEv, TL.joinL, prep, Vb.w, List.append_assoc, List.cons_append, List.nil_append] using k H1 s1
    · refine case_no (seq_no (.inl q) rfl (pcons_no2 cap_yes (pcons_no1 (val_noW lx_move (by cases b <;> first | decide | exact absurd rfl hb))))) ?_
      have hbw := Vb_len b
      simp only [tSl, tPart, tNoPart, tCKw, tVals, gStar, gCons, gNil, StX.tStar, tFmtS, tFmtI, tM0, tJs, tM1, rNewStrs, tMatch, setAll, lit_to, lit_page, lit_section, lit_gone, lit_exact, lit_open, tSeq, tAsg, tIfS, tRet, tRetN, tDrop, tNext, tNever, tOr, tAnd, tNot, tB, tTest, tCB, tCons, tVar, tC, tNil, tOp, tUn, tIf, tAndV, tOrV, tNotV, tChain, tTup, tLst, tCallR, tMethN, tMakeN, tPropN, tYes, gName, cx_K, cx_P, cx_w, rI0, rI, rEq, rNe, List.getElem?_cons_zero, List.getElem?_cons_succ, List.set_cons_zero, List.set_cons_succ, Option.some.injEq, exists_eq_left', exists_eq_left, V.bl.injEq, V.int.injEq, V.str.injEq, V.ref.injEq, List.cons.injEq, and_true, true_and, exists_and_left, and_assoc, List.append_nil, tCNil, rIxT]
      simp only [ly_take, ly_merge, ly_move, ly_into, ly_to, ly_at, lx_sp, empT, T_cat, num_T, List.nil_append]
      refine ⟨_, q, _, rfl, _, rfl, log_lt (by omega), ?_⟩
      simp only [T_cat, num_T]
      refine ⟨sz_T (by first | omega | (simp only [List.length_append, List.length_cons, List.length_nil, sTake, sMerge, sMove, sTo, sInto, sAt]; omega)), sz_T (by first | omega | (simp only [List.length_append, List.length_cons, List.length_nil, sTake, sMerge, sMove, sTo, sInto, sAt]; omega)), _, q, _, rfl, _, rfl, sz_T (by first | omega | (simp only [List.length_append, List.length_cons, List.length_nil, sTake, sMerge, sMove, sTo, sInto, sAt]; omega)), ?_⟩
      simp only [T_cat]
      refine ⟨sz_T (by first | omega | (simp only [List.length_append, List.length_cons, List.length_nil, sTake, sMerge, sMove, sTo, sInto, sAt]; omega)), sz_T (by first | omega | (simp only [List.length_append, List.length_cons, List.length_nil, sTake, sMerge, sMove, sTo, sInto, sAt]; omega)), _, q, _, rfl, _, rfl, sz_T (by first | omega | (simp only [List.length_append, List.length_cons, List.length_nil, sTake, sMerge, sMove, sTo, sInto, sAt]; omega)), ?_⟩
      simp only [T_cat]
      refine ⟨sz_T (by first | omega | (simp only [List.length_append, List.length_cons, List.length_nil, sTake, sMerge, sMove, sTo, sInto, sAt]; omega)), sz_T (by first | omega | (simp only [List.length_append, List.length_cons, List.length_nil, sTake, sMerge, sMove, sTo, sInto, sAt]; omega)), _, q, _, rfl, _, rfl, sz_T (by first | omega | (simp only [List.length_append, List.length_cons, List.length_nil, sTake, sMerge, sMove, sTo, sInto, sAt]; omega)), ?_⟩
      simp only [T_cat]
      refine ⟨sz_T (by first | omega | (simp only [List.length_append, List.length_cons, List.length_nil, sTake, sMerge, sMove, sTo, sInto, sAt]; omega)), sz_T (by first | omega | (simp only [List.length_append, List.length_cons, List.length_nil, sTake, sMerge, sMove, sTo, sInto, sAt]; omega)), _, q, _, rfl, _, rfl, p, hu, hp, fun H1 s1 => ⟨_, rfl, sz_T (by first | omega | (simp only [List.length_append, List.length_cons, List.length_nil, sTake, sMerge, sMove, sTo, sInto, sAt]; omega)), ?_⟩⟩
      simp only [T_cat]
      refine ⟨sz_T (by first | omega | (simp only [List.length_append, List.length_cons, List.length_nil, sTake, sMerge, sMove, sTo, sInto, sAt]; omega)), ?_⟩
      have hpr : prep b = sAt := by cases b <;> first | rfl | exact absurd rfl hb
      have kk := k H1 s1
      simp only [tEv, wEv, TL.joinL, hpr, List.append_assoc, List.cons_append, List.nil_append] at kk ⊢
      exact kk
abbrev N_site_text : List Str := ["site", "event"]
theorem sc_site_text : FnScope N_site_text ["site"] (defScope s_site_text) := ⟨rfl, rfl, rfl, by decide +kernel, rfl, by decide +kernel, by decide +kernel⟩
theorem st_site_text (x0 : V) : L2.start N_site_text [x0] = [some x0, none] := rfl
def p_site_text : V → Hp → VK → Prop := fun v H Q => ∃ a st p, v = .ref a ∧ SiteAt K H a st p ∧ Wf st ∧ RetV H Q (.str (T (tSt st.ev)))
theorem ok_site_text (L : Lw K mg) : FN P w K mg base 4 a_site_text (sp1 (p_site_text (K := K))) := by
  obtain ⟨fd, F⟩ := L.site_text
  refine fn_any F sc_site_text (len1 rfl) (fun _ _ _ _ _ _ us hl => match us, hl with | [_], _ => rfl) fun cdv A outer s H vs Q E hr h => ?_
  obtain ⟨_, rfl, a, st, p, rfl, S, W, k⟩ := h
  have nd := sc_site_text.nd
  refine ⟨_, (pss_one (ps_ret (pe_join pe_str (pe_lc (own := [("event", 1)]) (g := gName 1) rfl nd (pi_list (pe_m0 (pv 0) L.c_Site L.m_Site_events (ok_Site_events L) (hr.mono (by decide)))) (blkOk_by (N := N_site_text) (sc := defScope s_site_text) (by decide +kernel)) (fun _ _ _ _ _ => (pg_name (i := 1) nd rfl (Or.inl rfl))) (fun _ _ _ _ _ => pts_nil) (fun _ _ _ _ _ => (pe_g (ok_event_text L) (hr.mono (by decide)) rfl L.g_event_text L.event_text.kp (pa_cons (pv 1) pa_nil))))))), ?_⟩
  simp only [tSl, tPart, tNoPart, tCKw, tVals, gStar, gCons, gNil, StX.tStar, tFmtS, tFmtI, tM0, tJs, tM1, rNewStrs, tMatch, setAll, lit_to, lit_page, lit_section, lit_gone, lit_exact, lit_open, tSeq, tAsg, tIfS, tRet, tRetN, tDrop, tNext, tNever, tOr, tAnd, tNot, tB, tTest, tCB, tCons, tVar, tC, tNil, tOp, tUn, tIf, tAndV, tOrV, tNotV, tChain, tTup, tLst, tCallR, tMethN, tMakeN, tPropN, tYes, gName, cx_K, cx_P, cx_w, rI0, rI, rEq, rNe, List.getElem?_cons_zero, List.getElem?_cons_succ, List.set_cons_zero, List.set_cons_succ, Option.some.injEq, exists_eq_left', exists_eq_left, V.bl.injEq, V.int.injEq, V.str.injEq, V.ref.injEq, List.cons.injEq, and_true, true_and, exists_and_left, and_assoc, List.append_nil, st_site_text]
  obtain ⟨dx, ea⟩ := S.ins
  refine ⟨⟨_, rfl⟩, tLc_cut (Src := fun J H1 => ∃ q vs, J = Itl K q ∧ Same H H1 ∧ H1 q = some (.lst vs) ∧ Paired (EvAt K H1) vs st.ev) (fun R r => ?_) ?_⟩
  · simp only [tSl, tPart, tNoPart, tCKw, tVals, gStar, gCons, gNil, StX.tStar, tFmtS, tFmtI, tM0, tJs, tM1, rNewStrs, tMatch, setAll, lit_to, lit_page, lit_section, lit_gone, lit_exact, lit_open, tSeq, tAsg, tIfS, tRet, tRetN, tDrop, tNext, tNever, tOr, tAnd, tNot, tB, tTest, tCB, tCons, tVar, tC, tNil, tOp, tUn, tIf, tAndV, tOrV, tNotV, tChain, tTup, tLst, tCallR, tMethN, tMakeN, tPropN, tYes, gName, cx_K, cx_P, cx_w, rI0, rI, rEq, rNe, List.getElem?_cons_zero, List.getElem?_cons_succ, List.set_cons_zero, List.set_cons_succ, Option.some.injEq, exists_eq_left', exists_eq_left, V.bl.injEq, V.int.injEq, V.str.injEq, V.ref.injEq, List.cons.injEq, and_true, true_and, exists_and_left, and_assoc, List.append_nil, iList]
    exact ⟨dx, _, ea, rfl, _, rfl, a, st, p, rfl, S, fun q vs H1 s1 e hx => ⟨q, rfl, ⟨_, SqL.of e⟩, r _ _ ⟨q, vs, rfl, s1, e, hx⟩⟩⟩
  · rintro J H1 ⟨q, vs, rfl, s1, eq, hx⟩
    have hxl := Paired.length hx
    have hl := W.l1
    refine tLc_strs (walk_list (a := q)) (fun R r => r) (st.ev.map tEv) (by rw [List.length_map, hxl]) (by omega) (fun H' s => SqL.of (s _ _ eq)) (fun _ => rfl) ?_ ?_
    · rintro i x H2 H3 l Q' hl s2 ⟨rfl, hxi⟩ k'
      obtain ⟨e, hei, hea⟩ := paired_get hx hxi
      rw [List.getElem?_map, hei] at hl
      cases hl
      simp only [tSl, tPart, tNoPart, tCKw, tVals, gStar, gCons, gNil, StX.tStar, tFmtS, tFmtI, tM0, tJs, tM1, rNewStrs, tMatch, setAll, lit_to, lit_page, lit_section, lit_gone, lit_exact, lit_open, tSeq, tAsg, tIfS, tRet, tRetN, tDrop, tNext, tNever, tOr, tAnd, tNot, tB, tTest, tCB, tCons, tVar, tC, tNil, tOp, tUn, tIf, tAndV, tOrV, tNotV, tChain, tTup, tLst, tCallR, tMethN, tMakeN, tPropN, tYes, gName, cx_K, cx_P, cx_w, rI0, rI, rEq, rNe, List.getElem?_cons_zero, List.getElem?_cons_succ, List.set_cons_zero, List.set_cons_succ, Option.some.injEq, exists_eq_left', exists_eq_left, V.bl.injEq, V.int.injEq, V.str.injEq, V.ref.injEq, List.cons.injEq, and_true, true_and, exists_and_left, and_assoc, List.append_nil]
      exact ⟨_, rfl, _, rfl, e, hea.kt s2.kt, W.okE e (List.mem_of_getElem? hei), k'⟩
    · intro D H2 hD s2 e2
      refine ⟨D, rfl, (st.ev.map tEv).map T, .inl (SqL.of e2), ?_, ?_⟩
      · rw [lx_nl]
        exact join_len (evs_lens W.okE) (by decide) (by rw [List.length_map]; omega)
      · rw [lx_nl, join_T]
        exact k H2 (s1.trans s2)
abbrev N_need_sort : List Str := ["site", "sort", "name"]
theorem sc_need_sort : FnScope N_need_sort ["site", "sort", "name"] (defScope s_need_sort) := ⟨rfl, rfl, rfl, by decide +kernel, rfl, by decide +kernel, by decide +kernel⟩
theorem st_need_sort (x0 x1 x2 : V) : L2.start N_need_sort [x0, x1, x2] = [some x0, some x1, some x2] := rfl
def p_need_sort : V → V → V → Hp → VK → Prop := fun v sv nv H Q => ∃ a st p n s, v = .ref a ∧ sv = vW (sortN s) ∧ nv = vW n ∧ SiteAt K H a st p ∧ Wf st ∧ aget st.so n = some s ∧ RetV H Q .non
theorem ok_need_sort (L : Lw K mg) : FN P w K mg base 3 a_need_sort (sp3 (p_need_sort (K := K))) := by
  obtain ⟨fd, F⟩ := L.need_sort
  refine fn_any F sc_need_sort (len3 rfl) (fun _ _ _ _ _ _ us hl => match us, hl with | [_, _, _], _ => rfl) fun cdv A outer s H vs Q E hr h => ?_
  obtain ⟨_, _, _, rfl, a, st, p, n, so, rfl, rfl, rfl, S, W, hg, k⟩ := h
  have nd := sc_need_sort.nd
  refine ⟨_, (pss_one (ps_if (PW.pt (pw_and (pt_cmpR op_in_seq (pv 2) (pe_pr (pv 0) L.c_Site L.p_Site_names (ok_Site_names L) (hr.mono (by decide)) rfl) (by rfl)) (pw_and1 (pt_cmpR op_ne (pe_m (pv 0) L.c_Site L.m_Site_sort_of (ok_Site_sort_of L) (hr.mono (by decide)) (pa_cons (pv 2) pa_nil)) (pv 1) (nomark _))))) (pss_one ps_never) pss_nil)), ?_⟩
  simp only [tSl, tPart, tNoPart, tCKw, tVals, gStar, gCons, gNil, StX.tStar, tFmtS, tFmtI, tM0, tJs, tM1, rNewStrs, tMatch, setAll, lit_to, lit_page, lit_section, lit_gone, lit_exact, lit_open, tAsg, tRet, tRetN, tDrop, tNext, tNever, tNot, tB, tTest, tCB, tCons, tVar, tC, tNil, tOp, tUn, tAndV, tOrV, tNotV, tChain, tTup, tLst, tCallR, tMethN, tMakeN, tPropN, tYes, gName, cx_K, cx_P, cx_w, rI0, rI, rEq, rNe, List.getElem?_cons_zero, List.getElem?_cons_succ, List.set_cons_zero, List.set_cons_succ, Option.some.injEq, exists_eq_left', exists_eq_left, V.bl.injEq, V.int.injEq, V.str.injEq, V.ref.injEq, List.cons.injEq, and_true, true_and, exists_and_left, and_assoc, List.append_nil, st_need_sort]
  refine if_no (fun R r => ?_) fun H1 s1 => k H1 s1
  obtain ⟨dx, ea⟩ := S.ins
  simp only [tSl, tPart, tNoPart, tCKw, tVals, gStar, gCons, gNil, StX.tStar, tFmtS, tFmtI, tM0, tJs, tM1, rNewStrs, tMatch, setAll, lit_to, lit_page, lit_section, lit_gone, lit_exact, lit_open, tSeq, tAsg, tIfS, tRet, tRetN, tDrop, tNext, tNever, tOr, tAnd, tNot, tB, tTest, tCB, tCons, tVar, tC, tNil, tOp, tUn, tIf, tAndV, tOrV, tNotV, tChain, tTup, tLst, tCallR, tMethN, tMakeN, tPropN, tYes, gName, cx_K, cx_P, cx_w, rI0, rI, rEq, rNe, List.getElem?_cons_zero, List.getElem?_cons_succ, List.set_cons_zero, List.set_cons_succ, Option.some.injEq, exists_eq_left', exists_eq_left, V.bl.injEq, V.int.injEq, V.str.injEq, V.ref.injEq, List.cons.injEq, and_true, true_and, exists_and_left, and_assoc, List.append_nil, rIn]
  refine ⟨dx, _, ea, _, rfl, a, st, p, rfl, S, W.l4, fun q ys H1 s1 _ eq => ⟨q, rfl, _, .inl (SqL.of eq), rfl, List.all_eq_true.mpr fun v hv => ?_, ?_⟩⟩
  · obtain ⟨y, _, rfl⟩ := List.mem_map.mp hv
    rfl
  · rw [if_neg (show ¬ (false = true) from fun z => nomatch z)]
    split
    · refine ⟨dx, _, s1 _ _ ea, rfl, _, _, rfl, a, st, p, n, so, rfl, rfl, S.mono s1, hg, fun H2 s2 => ⟨scal_W, ?_⟩⟩
      rw [decide_eq_true rfl]
      exact r H2 (s1.trans s2)
    · exact r H1 s1
theorem DoneS.same {H H1 : Hp} {a : Addr} {p : Pt} {st : SS} {Q : VK} (d : DoneS K H a p st Q) (s : Same H H1) : DoneS K H1 a p st Q := fun H' p' k sb S =>
  d H' p' (fun b o n e => k b o n (s b o e)) (fun b hb => (sb b hb).imp id fun e => by cases z : H b with | none => rfl | some o => have := s b o z; rw [e] at this; cases this) S
theorem Can.okEv {st : SS} {e : Ev} (h : Can st e) : OkEv e := by
  cases e with
  | pl k => cases k <;> exact h.1.ok
  | merge => exact h.1.ok
  | take => exact h.1.ok
abbrev N_happen : List Str := ["site", "line", "day", "name", "place", "sort", "other"]
theorem sc_happen : FnScope N_happen ["site", "line"] (defScope s_happen) := ⟨rfl, rfl, rfl, by decide +kernel, rfl, by decide +kernel, by decide +kernel⟩
theorem st_happen (x0 x1 : V) : L2.start N_happen [x0, x1] = [some x0, some x1, none, none, none, none, none] := rfl
def p_happen : V → V → Hp → VK → Prop := fun v tv H Q => ∃ a st p e, v = .ref a ∧ tv = .str (T (tEv e)) ∧ SiteAt K H a st p ∧ Wf st ∧ Can st e ∧ DoneS K H a p (st.doEv e) Q
theorem ok_happen (L : Lw K mg) : FN P w K mg base 6 a_happen (sp2 (p_happen (K := K))) := by
  obtain ⟨fd, F⟩ := L.happen
  refine fn_any F sc_happen (len2 rfl) (fun _ _ _ _ _ _ us hl => match us, hl with | [_, _], _ => rfl) fun cdv A outer s H vs Q E hr h => ?_
  obtain ⟨_, _, rfl, a, st, p, e, rfl, rfl, S, W, C, k⟩ := h
  have nd := sc_happen.nd
  refine ⟨_, (pss_one (ps_match (pe_split (pv 1) pe_str) (pcs_cons (is := [2, 3, 4]) nd (pm_seq rfl (pms_cons pm_cap (pms_cons (pm_val op_eq pe_str) (pms_cons (pm_val op_eq pe_str) (pms_cons pm_cap (pms_cons (pm_val op_eq pe_str) (pms_cons pm_cap pms_nil))))))) ⟨rfl, .inl rfl, .inl rfl, rfl, .inl rfl, .inl rfl, rfl, .inl rfl, .inl rfl, trivial⟩ (pss_one (ps_expr (pe_m (pv 0) L.c_Site L.m_Site_put_page (ok_Site_put_page L) (hr.mono (by decide)) (pa_cons (pe_g (ok_figure L) (hr.mono (by decide)) rfl L.g_figure L.figure.kp (pa_cons (pv 2) pa_nil)) (pa_cons (pv 3) (pa_cons (pe_g (ok_read_address L) (hr.mono (by decide)) rfl L.g_read_address L.read_address.kp (pa_cons (pv 4) pa_nil)) pa_nil)))))) (pcs_cons (is := [2, 3, 4]) nd (pm_seq rfl (pms_cons pm_cap (pms_cons (pm_val op_eq pe_str) (pms_cons (pm_val op_eq pe_str) (pms_cons pm_cap (pms_cons (pm_val op_eq pe_str) (pms_cons pm_cap pms_nil))))))) ⟨rfl, .inl rfl, .inl rfl, rfl, .inl rfl, .inl rfl, rfl, .inl rfl, .inl rfl, trivial⟩ (pss_one (ps_expr (pe_m (pv 0) L.c_Site L.m_Site_put_section (ok_Site_put_section L) (hr.mono (by decide)) (pa_cons (pe_g (ok_figure L) (hr.mono (by decide)) rfl L.g_figure L.figure.kp (pa_cons (pv 2) pa_nil)) (pa_cons (pv 3) (pa_cons (pe_g (ok_read_address L) (hr.mono (by decide)) rfl L.g_read_address L.read_address.kp (pa_cons (pv 4) pa_nil)) pa_nil)))))) (pcs_cons (is := [2, 5, 3, 4]) nd (pm_seq rfl (pms_cons pm_cap (pms_cons (pm_val op_eq pe_str) (pms_cons pm_cap (pms_cons pm_cap (pms_cons (pm_val op_eq pe_str) (pms_cons pm_cap pms_nil))))))) ⟨rfl, .inl rfl, .inl rfl, rfl, .inl rfl, .inl rfl, rfl, .inl rfl, .inl rfl, rfl, .inl rfl, .inl rfl, trivial⟩ (pss_cons (ps_expr (pe_g (ok_need_sort L) (hr.mono (by decide)) rfl L.g_need_sort L.need_sort.kp (pa_cons (pv 0) (pa_cons (pv 5) (pa_cons (pv 3) pa_nil))))) (pss_one (ps_expr (pe_m (pv 0) L.c_Site L.m_Site_move (ok_Site_move L) (hr.mono (by decide)) (pa_cons (pe_g (ok_figure L) (hr.mono (by decide)) rfl L.g_figure L.figure.kp (pa_cons (pv 2) pa_nil)) (pa_cons (pv 3) (pa_cons (pe_g (ok_read_address L) (hr.mono (by decide)) rfl L.g_read_address L.read_address.kp (pa_cons (pv 4) pa_nil)) pa_nil))))))) (pcs_cons (is := [2, 5, 3, 6]) nd (pm_seq rfl (pms_cons pm_cap (pms_cons (pm_val op_eq pe_str) (pms_cons pm_cap (pms_cons pm_cap (pms_cons (pm_val op_eq pe_str) (pms_cons pm_cap pms_nil))))))) ⟨rfl, .inl rfl, .inl rfl, rfl, .inl rfl, .inl rfl, rfl, .inl rfl, .inl rfl, rfl, .inl rfl, .inl rfl, trivial⟩ (pss_cons (ps_expr (pe_g (ok_need_sort L) (hr.mono (by decide)) rfl L.g_need_sort L.need_sort.kp (pa_cons (pv 0) (pa_cons (pv 5) (pa_cons (pv 3) pa_nil))))) (pss_one (ps_expr (pe_m (pv 0) L.c_Site L.m_Site_merge (ok_Site_merge L) (hr.mono (by decide)) (pa_cons (pe_g (ok_figure L) (hr.mono (by decide)) rfl L.g_figure L.figure.kp (pa_cons (pv 2) pa_nil)) (pa_cons (pv 3) (pa_cons (pv 6) pa_nil))))))) (pcs_cons (is := [2, 5, 3]) nd (pm_seq rfl (pms_cons pm_cap (pms_cons (pm_val op_eq pe_str) (pms_cons pm_cap (pms_cons pm_cap pms_nil))))) ⟨rfl, .inl rfl, .inl rfl, rfl, .inl rfl, .inl rfl, rfl, .inl rfl, .inl rfl, trivial⟩ (pss_cons (ps_expr (pe_g (ok_need_sort L) (hr.mono (by decide)) rfl L.g_need_sort L.need_sort.kp (pa_cons (pv 0) (pa_cons (pv 5) (pa_cons (pv 3) pa_nil))))) (pss_one (ps_expr (pe_m (pv 0) L.c_Site L.m_Site_take (ok_Site_take L) (hr.mono (by decide)) (pa_cons (pe_g (ok_figure L) (hr.mono (by decide)) rfl L.g_figure L.figure.kp (pa_cons (pv 2) pa_nil)) (pa_cons (pv 3) pa_nil)))))) (pcs_cons (is := [2, 5, 3, 4]) nd (pm_seq rfl (pms_cons pm_cap (pms_cons (pm_val op_eq pe_str) (pms_cons pm_cap (pms_cons pm_cap (pms_cons (pm_val op_eq pe_str) (pms_cons pm_cap pms_nil))))))) ⟨rfl, .inl rfl, .inl rfl, rfl, .inl rfl, .inl rfl, rfl, .inl rfl, .inl rfl, rfl, .inl rfl, .inl rfl, trivial⟩ (pss_cons (ps_expr (pe_g (ok_need_sort L) (hr.mono (by decide)) rfl L.g_need_sort L.need_sort.kp (pa_cons (pv 0) (pa_cons (pv 5) (pa_cons (pv 3) pa_nil))))) (pss_one (ps_expr (pe_m (pv 0) L.c_Site L.m_Site_bring (ok_Site_bring L) (hr.mono (by decide)) (pa_cons (pe_g (ok_figure L) (hr.mono (by decide)) rfl L.g_figure L.figure.kp (pa_cons (pv 2) pa_nil)) (pa_cons (pv 3) (pa_cons (pe_g (ok_read_address L) (hr.mono (by decide)) rfl L.g_read_address L.read_address.kp (pa_cons (pv 4) pa_nil)) pa_nil))))))) (pcs_cons (is := []) nd pm_any trivial (pss_one ps_never) pcs_nil))))))))), ?_⟩
  simp only [tSl, tPart, tNoPart, tCKw, tVals, gStar, gCons, gNil, StX.tStar, tFmtS, tFmtI, tM0, tJs, tM1, rNewStrs, tMatch, setAll, lit_to, lit_page, lit_section, lit_gone, lit_exact, lit_open, tSeq, tAsg, tIfS, tRet, tRetN, tDrop, tNext, tNever, tOr, tAnd, tNot, tB, tTest, tCB, tCons, tVar, tC, tNil, tOp, tUn, tIf, tAndV, tOrV, tNotV, tChain, tTup, tLst, tCallR, tMethN, tMakeN, tPropN, tYes, gName, cx_K, cx_P, cx_w, rI0, rI, rEq, rNe, List.getElem?_cons_zero, List.getElem?_cons_succ, List.set_cons_zero, List.set_cons_succ, Option.some.injEq, exists_eq_left', exists_eq_left, V.bl.injEq, V.int.injEq, V.str.injEq, V.ref.injEq, List.cons.injEq, and_true, true_and, exists_and_left, and_assoc, List.append_nil, st_happen]
  have ok := C.okEv
  have hl := tEv_len ok
  rw [lx_sp]
  refine ⟨⟨_, rfl⟩, by rw [T_len]; rfl, by rw [T_len]; exact Nat.le_trans (show _ ≤ 200 by omega) (by decide), fun q hq => ?_⟩
  rw [tEv_spl ok]
  have s1 := (Same.refl H).nw (o := .lst (((wEv e).map T).map V.str)) hq
  have k := k.same s1
  have S := S.mono s1
  have hl : SqL K (upd H q (.lst (((wEv e).map T).map V.str))) q (((wEv e).map T).map V.str) := SqL.of upd_same
  generalize upd H q (.lst (((wEv e).map T).map V.str)) = H1 at s1 k S hl ⊢
  obtain ⟨dx, ea⟩ := S.ins
  cases e with
  | take d so n =>
    have hl : SqL K H1 q [vW (dg d), vW sTake, vW (sortN so), vW n] := hl
    refine case_no (seq_len (.inr hl) (nel rfl)) ?_
    refine case_no (seq_len (.inr hl) (nel rfl)) ?_
    refine case_no (seq_len (.inr hl) (nel rfl)) ?_
    refine case_no (seq_len (.inr hl) (nel rfl)) ?_
    refine case_yes (seq_yes (.inr hl) rfl (pcons_yes cap_yes (pcons_yes (val_yesW lx_take) (pcons_yes cap_yes (pcons_yes cap_yes pnil))))) ?_
    simp only [tSl, tPart, tNoPart, tCKw, tVals, gStar, gCons, gNil, StX.tStar, tFmtS, tFmtI, tM0, tJs, tM1, rNewStrs, tMatch, setAll, lit_to, lit_page, lit_section, lit_gone, lit_exact, lit_open, tSeq, tAsg, tIfS, tRet, tRetN, tDrop, tNext, tNever, tOr, tAnd, tNot, tB, tTest, tCB, tCons, tVar, tC, tNil, tOp, tUn, tIf, tAndV, tOrV, tNotV, tChain, tTup, tLst, tCallR, tMethN, tMakeN, tPropN, tYes, gName, cx_K, cx_P, cx_w, rI0, rI, rEq, rNe, List.getElem?_cons_zero, List.getElem?_cons_succ, List.set_cons_zero, List.set_cons_succ, Option.some.injEq, exists_eq_left', exists_eq_left, V.bl.injEq, V.int.injEq, V.str.injEq, V.ref.injEq, List.cons.injEq, and_true, true_and, exists_and_left, and_assoc, List.append_nil, List.nil_append, List.cons_append]
    exact ⟨_, _, _, rfl, a, st, p, n, so, rfl, rfl, rfl, S, W, C.2.1, fun H2 s2 => ⟨dx, _, s2 _ _ ea, rfl, _, rfl, d, rfl, ok.1, fun H3 s3 => ⟨_, _, _, rfl, a, st, p, d, so, n, rfl, rfl, rfl, (S.mono s2).mono s3, W, C, (k.same s2).same s3⟩⟩⟩
  | merge d so n o =>
    have hl : SqL K H1 q [vW (dg d), vW sMerge, vW (sortN so), vW n, vW sInto, vW o] := hl
    refine case_no (seq_no (.inr hl) rfl (pcons_no2 cap_yes (pcons_no1 (val_noW lx_put (by decide))))) ?_
    refine case_no (seq_no (.inr hl) rfl (pcons_no2 cap_yes (pcons_no1 (val_noW lx_put (by decide))))) ?_
    refine case_no (seq_no (.inr hl) rfl (pcons_no2 cap_yes (pcons_no1 (val_noW lx_move (by decide))))) ?_
    refine case_yes (seq_yes (.inr hl) rfl (pcons_yes cap_yes (pcons_yes (val_yesW lx_merge) (pcons_yes cap_yes (pcons_yes cap_yes (pcons_yes (val_yesW lx_into) (pcons_yes cap_yes pnil))))))) ?_
    simp only [tSl, tPart, tNoPart, tCKw, tVals, gStar, gCons, gNil, StX.tStar, tFmtS, tFmtI, tM0, tJs, tM1, rNewStrs, tMatch, setAll, lit_to, lit_page, lit_section, lit_gone, lit_exact, lit_open, tSeq, tAsg, tIfS, tRet, tRetN, tDrop, tNext, tNever, tOr, tAnd, tNot, tB, tTest, tCB, tCons, tVar, tC, tNil, tOp, tUn, tIf, tAndV, tOrV, tNotV, tChain, tTup, tLst, tCallR, tMethN, tMakeN, tPropN, tYes, gName, cx_K, cx_P, cx_w, rI0, rI, rEq, rNe, List.getElem?_cons_zero, List.getElem?_cons_succ, List.set_cons_zero, List.set_cons_succ, Option.some.injEq, exists_eq_left', exists_eq_left, V.bl.injEq, V.int.injEq, V.str.injEq, V.ref.injEq, List.cons.injEq, and_true, true_and, exists_and_left, and_assoc, List.append_nil, List.nil_append, List.cons_append]
    exact ⟨_, _, _, rfl, a, st, p, n, so, rfl, rfl, rfl, S, W, C.2.1, fun H2 s2 => ⟨dx, _, s2 _ _ ea, rfl, _, rfl, d, rfl, ok.1, fun H3 s3 => ⟨_, _, _, _, rfl, a, st, p, d, so, n, o, rfl, rfl, rfl, rfl, (S.mono s2).mono s3, W, C, (k.same s2).same s3⟩⟩⟩
  | pl b d so n pl =>
    cases b with
    | put =>
      have hl : SqL K H1 q [vW (dg d), vW sPut, vW (sortN so), vW n, vW sAt, vW (tAd pl)] := hl
      cases so with
      | false =>
        refine case_yes (seq_yes (.inr hl) rfl (pcons_yes cap_yes (pcons_yes (val_yesW lx_put) (pcons_yes (val_yes rfl rfl) (pcons_yes cap_yes (pcons_yes (val_yesW lx_at) (pcons_yes cap_yes pnil))))))) ?_
        simp only [tSl, tPart, tNoPart, tCKw, tVals, gStar, gCons, gNil, StX.tStar, tFmtS, tFmtI, tM0, tJs, tM1, rNewStrs, tMatch, setAll, lit_to, lit_page, lit_section, lit_gone, lit_exact, lit_open, tSeq, tAsg, tIfS, tRet, tRetN, tDrop, tNext, tNever, tOr, tAnd, tNot, tB, tTest, tCB, tCons, tVar, tC, tNil, tOp, tUn, tIf, tAndV, tOrV, tNotV, tChain, tTup, tLst, tCallR, tMethN, tMakeN, tPropN, tYes, gName, cx_K, cx_P, cx_w, rI0, rI, rEq, rNe, List.getElem?_cons_zero, List.getElem?_cons_succ, List.set_cons_zero, List.set_cons_succ, Option.some.injEq, exists_eq_left', exists_eq_left, V.bl.injEq, V.int.injEq, V.str.injEq, V.ref.injEq, List.cons.injEq, and_true, true_and, exists_and_left, and_assoc, List.append_nil, List.nil_append, List.cons_append]
        exact ⟨dx, _, ea, rfl, _, rfl, d, rfl, ok.1, fun H2 s2 => ⟨_, rfl, pl, rfl, ok.2.2, fun r H3 s3 hr => ⟨_, _, _, _, rfl, a, st, p, d, n, pl, rfl, rfl, rfl, ⟨r, rfl, hr⟩, (S.mono s2).mono s3, W, C, (k.same s2).same s3⟩⟩⟩
      | true =>
        refine case_no (seq_no (.inr hl) rfl (pcons_no2 cap_yes (pcons_no2 (val_yesW lx_put) (pcons_no1 (val_no rfl fun e => absurd (T_inj (V.str.inj e)) (by decide)))))) ?_
        refine case_yes (seq_yes (.inr hl) rfl (pcons_yes cap_yes (pcons_yes (val_yesW lx_put) (pcons_yes (val_yes rfl rfl) (pcons_yes cap_yes (pcons_yes (val_yesW lx_at) (pcons_yes cap_yes pnil))))))) ?_
        simp only [tSl, tPart, tNoPart, tCKw, tVals, gStar, gCons, gNil, StX.tStar, tFmtS, tFmtI, tM0, tJs, tM1, rNewStrs, tMatch, setAll, lit_to, lit_page, lit_section, lit_gone, lit_exact, lit_open, tSeq, tAsg, tIfS, tRet, tRetN, tDrop, tNext, tNever, tOr, tAnd, tNot, tB, tTest, tCB, tCons, tVar, tC, tNil, tOp, tUn, tIf, tAndV, tOrV, tNotV, tChain, tTup, tLst, tCallR, tMethN, tMakeN, tPropN, tYes, gName, cx_K, cx_P, cx_w, rI0, rI, rEq, rNe, List.getElem?_cons_zero, List.getElem?_cons_succ, List.set_cons_zero, List.set_cons_succ, Option.some.injEq, exists_eq_left', exists_eq_left, V.bl.injEq, V.int.injEq, V.str.injEq, V.ref.injEq, List.cons.injEq, and_true, true_and, exists_and_left, and_assoc, List.append_nil, List.nil_append, List.cons_append]
        exact ⟨dx, _, ea, rfl, _, rfl, d, rfl, ok.1, fun H2 s2 => ⟨_, rfl, pl, rfl, ok.2.2, fun r H3 s3 hr => ⟨_, _, _, _, rfl, a, st, p, d, n, pl, rfl, rfl, rfl, ⟨r, rfl, hr⟩, (S.mono s2).mono s3, W, C, (k.same s2).same s3⟩⟩⟩
    | move =>
      have hl : SqL K H1 q [vW (dg d), vW sMove, vW (sortN so), vW n, vW sTo, vW (tAd pl)] := hl
      refine case_no (seq_no (.inr hl) rfl (pcons_no2 cap_yes (pcons_no1 (val_noW lx_put (by decide))))) ?_
      refine case_no (seq_no (.inr hl) rfl (pcons_no2 cap_yes (pcons_no1 (val_noW lx_put (by decide))))) ?_
      refine case_yes (seq_yes (.inr hl) rfl (pcons_yes cap_yes (pcons_yes (val_yesW lx_move) (pcons_yes cap_yes (pcons_yes cap_yes (pcons_yes (val_yes rfl rfl) (pcons_yes cap_yes pnil))))))) ?_
      simp only [tSl, tPart, tNoPart, tCKw, tVals, gStar, gCons, gNil, StX.tStar, tFmtS, tFmtI, tM0, tJs, tM1, rNewStrs, tMatch, setAll, lit_to, lit_page, lit_section, lit_gone, lit_exact, lit_open, tSeq, tAsg, tIfS, tRet, tRetN, tDrop, tNext, tNever, tOr, tAnd, tNot, tB, tTest, tCB, tCons, tVar, tC, tNil, tOp, tUn, tIf, tAndV, tOrV, tNotV, tChain, tTup, tLst, tCallR, tMethN, tMakeN, tPropN, tYes, gName, cx_K, cx_P, cx_w, rI0, rI, rEq, rNe, List.getElem?_cons_zero, List.getElem?_cons_succ, List.set_cons_zero, List.set_cons_succ, Option.some.injEq, exists_eq_left', exists_eq_left, V.bl.injEq, V.int.injEq, V.str.injEq, V.ref.injEq, List.cons.injEq, and_true, true_and, exists_and_left, and_assoc, List.append_nil, List.nil_append, List.cons_append]
      exact ⟨_, _, _, rfl, a, st, p, n, so, rfl, rfl, rfl, S, W, C.2.1, fun H2 s2 => ⟨dx, _, s2 _ _ ea, rfl, _, rfl, d, rfl, ok.1, fun H3 s3 => ⟨_, rfl, pl, rfl, ok.2.2, fun r H4 s4 hr => ⟨_, _, _, _, rfl, a, st, p, d, so, n, pl, rfl, rfl, rfl, ⟨r, rfl, hr⟩, ((S.mono s2).mono s3).mono s4, W, C, ((k.same s2).same s3).same s4⟩⟩⟩⟩
    | bring =>
      have hl : SqL K H1 q [vW (dg d), vW sBring, vW (sortN so), vW n, vW sAt, vW (tAd pl)] := hl
      refine case_no (seq_no (.inr hl) rfl (pcons_no2 cap_yes (pcons_no1 (val_noW lx_put (by decide))))) ?_
      refine case_no (seq_no (.inr hl) rfl (pcons_no2 cap_yes (pcons_no1 (val_noW lx_put (by decide))))) ?_
      refine case_no (seq_no (.inr hl) rfl (pcons_no2 cap_yes (pcons_no1 (val_noW lx_move (by decide))))) ?_
      refine case_no (seq_no (.inr hl) rfl (pcons_no2 cap_yes (pcons_no1 (val_noW lx_merge (by decide))))) ?_
      refine case_no (seq_len (.inr hl) (nel rfl)) ?_
      refine case_yes (seq_yes (.inr hl) rfl (pcons_yes cap_yes (pcons_yes (val_yesW lx_bring) (pcons_yes cap_yes (pcons_yes cap_yes (pcons_yes (val_yesW lx_at) (pcons_yes cap_yes pnil))))))) ?_
      simp only [tSl, tPart, tNoPart, tCKw, tVals, gStar, gCons, gNil, StX.tStar, tFmtS, tFmtI, tM0, tJs, tM1, rNewStrs, tMatch, setAll, lit_to, lit_page, lit_section, lit_gone, lit_exact, lit_open, tSeq, tAsg, tIfS, tRet, tRetN, tDrop, tNext, tNever, tOr, tAnd, tNot, tB, tTest, tCB, tCons, tVar, tC, tNil, tOp, tUn, tIf, tAndV, tOrV, tNotV, tChain, tTup, tLst, tCallR, tMethN, tMakeN, tPropN, tYes, gName, cx_K, cx_P, cx_w, rI0, rI, rEq, rNe, List.getElem?_cons_zero, List.getElem?_cons_succ, List.set_cons_zero, List.set_cons_succ, Option.some.injEq, exists_eq_left', exists_eq_left, V.bl.injEq, V.int.injEq, V.str.injEq, V.ref.injEq, List.cons.injEq, and_true, true_and, exists_and_left, and_assoc, List.append_nil, List.nil_append, List.cons_append]
      exact ⟨_, _, _, rfl, a, st, p, n, so, rfl, rfl, rfl, S, W, C.2.1, fun H2 s2 => ⟨dx, _, s2 _ _ ea, rfl, _, rfl, d, rfl, ok.1, fun H3 s3 => ⟨_, rfl, pl, rfl, ok.2.2, fun r H4 s4 hr => ⟨_, _, _, _, rfl, a, st, p, d, so, n, pl, rfl, rfl, rfl, ⟨r, rfl, hr⟩, ((S.mono s2).mono s3).mono s4, W, C, ((k.same s2).same s3).same s4⟩⟩⟩⟩
theorem SiteAt.some {H : Hp} {a : Addr} {st : SS} {p : Pt} (S : SiteAt K H a st p) : ∀ b ∈ p.all, ∃ o, H b = some o := fun b hb => by
  simp only [Pt.all, List.mem_cons] at hb
  rcases hb with rfl | rfl | rfl | rfl | rfl | hb
  · obtain ⟨vs, e, _⟩ := S.h
    exact ⟨_, e⟩
  · exact ⟨_, S.so⟩
  · obtain ⟨vs, e, _⟩ := S.sp
    exact ⟨_, e⟩
  · exact ⟨_, S.ot⟩
  · exact ⟨_, S.he⟩
  · obtain ⟨dx, fs, e⟩ := S.cl hb
    exact ⟨_, e⟩
def SS.doAll (st : SS) (es : List Ev) : SS := es.foldl SS.doEv st
def CanAll : SS → List Ev → Prop
  | st, [] => Wf st
  | st, e :: es => Wf st ∧ Can st e ∧ CanAll (st.doEv e) es
theorem doEv_ev (st : SS) (e : Ev) : (st.doEv e).ev = st.ev ++ [e] := by
  cases e with
  | pl k => cases k <;> rfl
  | merge => rfl
  | take => rfl
theorem doAll_ev : ∀ (es : List Ev) (st : SS), (st.doAll es).ev = st.ev ++ es
  | [], st => (List.append_nil _).symm
  | e :: es, st => by
    show ((st.doEv e).doAll es).ev = _
    rw [doAll_ev es, doEv_ev, List.append_assoc]
    rfl
theorem CanAll.wf : ∀ {es : List Ev} {st : SS}, CanAll st es → Wf st
  | [], _, h => h
  | _ :: _, _, h => h.1
theorem CanAll.last : ∀ {es : List Ev} {st : SS}, CanAll st es → Wf (st.doAll es)
  | [], _, h => h
  | _ :: es, _, h => CanAll.last (es := es) h.2.2
theorem CanAll.at : ∀ {es : List Ev} {st : SS} {i : Nat} {e : Ev}, CanAll st es → es[i]? = Option.some e → Wf (st.doAll (es.take i)) ∧ Can (st.doAll (es.take i)) e
  | x :: es, st, 0, e, h, q => by
    cases q
    exact ⟨h.1, h.2.1⟩
  | x :: es, st, i + 1, e, h, q => CanAll.at (es := es) (i := i) h.2.2 q
theorem doAll_take {es : List Ev} {st : SS} {i : Nat} {e : Ev} (h : es[i]? = Option.some e) : st.doAll (es.take (i + 1)) = (st.doAll (es.take i)).doEv e := by
  show List.foldl _ _ _ = SS.doEv (List.foldl _ _ _) e
  rw [List.take_add_one, h, List.foldl_append]
  rfl
abbrev N_read_site : List Str := ["text", "found", "line"]
theorem sc_read_site : FnScope N_read_site ["text"] (defScope s_read_site) := ⟨rfl, rfl, rfl, by decide +kernel, rfl, by decide +kernel, by decide +kernel⟩
theorem st_read_site (x0 : V) : L2.start N_read_site [x0] = [some x0, none, none] := rfl
def p_read_site : V → Hp → VK → Prop := fun v H Q => ∃ es, v = .str (T (tSt es)) ∧ CanAll SS.nil es ∧ ∀ a p H', Same H H' → H a = none → (∀ b ∈ p.all, H b = none) → SiteAt K H' a (SS.nil.doAll es) p → Q (.ref a) H'
theorem ok_read_site (L : Lw K mg) : FN P w K mg base 7 a_read_site (sp1 (p_read_site (K := K))) := by
  obtain ⟨fd, F⟩ := L.read_site
  refine fn_any F sc_read_site (len1 rfl) (fun _ _ _ _ _ _ us hl => match us, hl with | [_], _ => rfl) fun cdv A outer s H vs Q E hr h => ?_
  obtain ⟨_, rfl, es, rfl, C, k⟩ := h
  have nd := sc_read_site.nd
  refine ⟨_, (pss_cons (ps_if (pt_not (pt_val (pe_callB call_isi (by rfl) L.z_isinstance (by decide +kernel) (pa_cons (pv 0) (pa_cons (pe_bltn (v := .ty "str") (by rfl) L.z_str (by decide +kernel) rfl) pa_nil))))) (pss_one ps_never) pss_nil) (pss_cons (ps_set (i := 1) nd rfl (Or.inl rfl) (pe_mk0 L.mk_Site (ok_Site_init L) (hr.mono (by decide)) rfl L.g_Site)) (pss_cons (ps_try_thru0 (pss_one (ps_for PassesOwn.never rfl (pi_list (pe_ifExp (pt_cmpR op_ne (pv 0) pe_str (nomark _)) (pe_split (pv 0) pe_str) (pe_lst pa_nil))) (pg_name (i := 2) nd rfl (Or.inl rfl)) (pss_one (ps_expr (pe_g (ok_happen L) (hr.mono (by decide)) rfl L.g_happen L.happen.kp (pa_cons (pv 1) (pa_cons (pv 2) pa_nil)))))))) (pss_cons (ps_if (pt_cmpR op_ne (pe_g (ok_site_text L) (hr.mono (by decide)) rfl L.g_site_text L.site_text.kp (pa_cons (pv 1) pa_nil)) (pv 0) (nomark _)) (pss_one ps_never) pss_nil) (pss_one (ps_ret (pv 1))))))), ?_⟩
  simp only [tSl, tPart, tNoPart, tCKw, tVals, gStar, gCons, gNil, StX.tStar, tFmtS, tFmtI, tM0, tJs, tM1, rNewStrs, tMatch, setAll, lit_to, lit_page, lit_section, lit_gone, lit_exact, lit_open, tAsg, tRet, tRetN, tDrop, tNext, tNever, tNot, tB, tTest, tCB, tCons, tVar, tC, tNil, tOp, tUn, tAndV, tOrV, tNotV, tChain, tTup, tLst, tCallR, tMethN, tMakeN, tPropN, tYes, gName, cx_K, cx_P, cx_w, rI0, rI, rEq, rNe, List.getElem?_cons_zero, List.getElem?_cons_succ, List.set_cons_zero, List.set_cons_succ, Option.some.injEq, exists_eq_left', exists_eq_left, V.bl.injEq, V.int.injEq, V.str.injEq, V.ref.injEq, List.cons.injEq, and_true, true_and, exists_and_left, and_assoc, List.append_nil, st_read_site]
  have WL := C.last
  have hev : (SS.nil.doAll es).ev = es := doAll_ev es SS.nil
  have oks : ∀ e ∈ es, OkEv e := fun e he => WL.okE e (by rw [hev]; exact he)
  have hlen : es.length ≤ 500 := by rw [← hev]; exact WL.l1
  refine sif_nx (fun R r => ?_) fun H1 s1 => ?_
  · simp only [tSl, tPart, tNoPart, tCKw, tVals, gStar, gCons, gNil, StX.tStar, tFmtS, tFmtI, tM0, tJs, tM1, rNewStrs, tMatch, setAll, lit_to, lit_page, lit_section, lit_gone, lit_exact, lit_open, tSeq, tAsg, tIfS, tRet, tRetN, tDrop, tNext, tNever, tOr, tAnd, tNot, tB, tTest, tCB, tCons, tVar, tC, tNil, tOp, tUn, tIf, tAndV, tOrV, tNotV, tChain, tTup, tLst, tCallR, tMethN, tMakeN, tPropN, tYes, gName, cx_K, cx_P, cx_w, rI0, rI, rEq, rNe, List.getElem?_cons_zero, List.getElem?_cons_succ, List.set_cons_zero, List.set_cons_succ, Option.some.injEq, exists_eq_left', exists_eq_left, V.bl.injEq, V.int.injEq, V.str.injEq, V.ref.injEq, List.cons.injEq, and_true, true_and, exists_and_left, and_assoc, List.append_nil]
    exact isi_ty (.base (.str _)) kb_ss ⟨true, rfl, r H (Same.refl _)⟩
  simp only [tSl, tPart, tNoPart, tCKw, tVals, gStar, gCons, gNil, StX.tStar, tFmtS, tFmtI, tM0, tJs, tM1, rNewStrs, tMatch, setAll, lit_to, lit_page, lit_section, lit_gone, lit_exact, lit_open, tSeq, tAsg, tIfS, tRet, tRetN, tDrop, tNext, tNever, tOr, tAnd, tNot, tB, tTest, tCB, tCons, tVar, tC, tNil, tOp, tUn, tIf, tAndV, tOrV, tNotV, tChain, tTup, tLst, tCallR, tMethN, tMakeN, tPropN, tYes, gName, cx_K, cx_P, cx_w, rI0, rI, rEq, rNe, List.getElem?_cons_zero, List.getElem?_cons_succ, List.set_cons_zero, List.set_cons_succ, Option.some.injEq, exists_eq_left', exists_eq_left, V.bl.injEq, V.int.injEq, V.str.injEq, V.ref.injEq, List.cons.injEq, and_true, true_and, exists_and_left, and_assoc, List.append_nil]
  intro a dx ha hdx hne
  have s2 := (s1.nw (o := .own a) hdx).nw (o := .ins a_Site dx []) ((upd_ne hne.symm).trans ha)
  have nH : ∀ {b : Addr} {Hx : Hp}, Same H Hx → Hx b = none → H b = none := fun {b Hx} s e => by cases z : H b with | none => rfl | some o => rw [s b o z] at e; cases e
  have haH := nH s1 ha
  refine ⟨_, rfl, a, dx, rfl, upd_same, fun H2 p sb2 hp0 S => ⟨rfl, ?_⟩⟩
  have s3 : Same H H2 := fun b o e => sb2 b o (ne_of_none e haH) (s2 b o e)
  have hp0 : ∀ b ∈ p.all, H b = none := fun b hb => nH s2 (hp0 b hb)
  refine tFor_cut (Src := fun J H3 => ∃ q, J = Itl K q ∧ Same H2 H3 ∧ H3 q = some (.lst (((es.map tEv).map T).map V.str)) ∧ H2 q = none) (fun R r => ?_) ?_
  · show tIf _ _ _ _ _ _
    by_cases h0 : es = []
    · subst h0
      refine ife_no (fun R r => ?_) fun H3 s4 => ?_
      · simp only [tSl, tPart, tNoPart, tCKw, tVals, gStar, gCons, gNil, StX.tStar, tFmtS, tFmtI, tM0, tJs, tM1, rNewStrs, tMatch, setAll, lit_to, lit_page, lit_section, lit_gone, lit_exact, lit_open, tSeq, tAsg, tIfS, tRet, tRetN, tDrop, tNext, tNever, tOr, tAnd, tNot, tB, tTest, tCB, tCons, tVar, tC, tNil, tOp, tUn, tIf, tAndV, tOrV, tNotV, tChain, tTup, tLst, tCallR, tMethN, tMakeN, tPropN, tYes, gName, cx_K, cx_P, cx_w, rI0, rI, rEq, rNe, List.getElem?_cons_zero, List.getElem?_cons_succ, List.set_cons_zero, List.set_cons_succ, Option.some.injEq, exists_eq_left', exists_eq_left, V.bl.injEq, V.int.injEq, V.str.injEq, V.ref.injEq, List.cons.injEq, and_true, true_and, exists_and_left, and_assoc, List.append_nil]
        rw [lx_empty, decide_eq_true (show T (tSt []) = T [] from rfl)]
        exact ⟨rfl, r _ (Same.refl _)⟩
      · simp only [tSl, tPart, tNoPart, tCKw, tVals, gStar, gCons, gNil, StX.tStar, tFmtS, tFmtI, tM0, tJs, tM1, rNewStrs, tMatch, setAll, lit_to, lit_page, lit_section, lit_gone, lit_exact, lit_open, tSeq, tAsg, tIfS, tRet, tRetN, tDrop, tNext, tNever, tOr, tAnd, tNot, tB, tTest, tCB, tCons, tVar, tC, tNil, tOp, tUn, tIf, tAndV, tOrV, tNotV, tChain, tTup, tLst, tCallR, tMethN, tMakeN, tPropN, tYes, gName, cx_K, cx_P, cx_w, rI0, rI, rEq, rNe, List.getElem?_cons_zero, List.getElem?_cons_succ, List.set_cons_zero, List.set_cons_succ, Option.some.injEq, exists_eq_left', exists_eq_left, V.bl.injEq, V.int.injEq, V.str.injEq, V.ref.injEq, List.cons.injEq, and_true, true_and, exists_and_left, and_assoc, List.append_nil]
        exact ⟨szl rfl, fun q hq => ⟨⟨_, SqL.of upd_same⟩, r _ _ ⟨q, rfl, s4.nw hq, upd_same, by cases z : H2 q with | none => rfl | some o => rw [s4 q o z] at hq; cases hq⟩⟩⟩
    · have hne : tSt es ≠ [] := by
        cases es with
        | nil => exact absurd rfl h0
        | cons x es => exact tLn_ne (tEv_ne x)
      refine ife_yes (fun R r => ?_) fun H3 s4 => ?_
      · simp only [tSl, tPart, tNoPart, tCKw, tVals, gStar, gCons, gNil, StX.tStar, tFmtS, tFmtI, tM0, tJs, tM1, rNewStrs, tMatch, setAll, lit_to, lit_page, lit_section, lit_gone, lit_exact, lit_open, tSeq, tAsg, tIfS, tRet, tRetN, tDrop, tNext, tNever, tOr, tAnd, tNot, tB, tTest, tCB, tCons, tVar, tC, tNil, tOp, tUn, tIf, tAndV, tOrV, tNotV, tChain, tTup, tLst, tCallR, tMethN, tMakeN, tPropN, tYes, gName, cx_K, cx_P, cx_w, rI0, rI, rEq, rNe, List.getElem?_cons_zero, List.getElem?_cons_succ, List.set_cons_zero, List.set_cons_succ, Option.some.injEq, exists_eq_left', exists_eq_left, V.bl.injEq, V.int.injEq, V.str.injEq, V.ref.injEq, List.cons.injEq, and_true, true_and, exists_and_left, and_assoc, List.append_nil]
        rw [lx_empty, decide_eq_false (show ¬ T (tSt es) = T [] from fun z => hne (T_inj z))]
        exact ⟨rfl, r _ (Same.refl _)⟩
      · simp only [tSl, tPart, tNoPart, tCKw, tVals, gStar, gCons, gNil, StX.tStar, tFmtS, tFmtI, tM0, tJs, tM1, rNewStrs, tMatch, setAll, lit_to, lit_page, lit_section, lit_gone, lit_exact, lit_open, tSeq, tAsg, tIfS, tRet, tRetN, tDrop, tNext, tNever, tOr, tAnd, tNot, tB, tTest, tCB, tCons, tVar, tC, tNil, tOp, tUn, tIf, tAndV, tOrV, tNotV, tChain, tTup, tLst, tCallR, tMethN, tMakeN, tPropN, tYes, gName, cx_K, cx_P, cx_w, rI0, rI, rEq, rNe, List.getElem?_cons_zero, List.getElem?_cons_succ, List.set_cons_zero, List.set_cons_succ, Option.some.injEq, exists_eq_left', exists_eq_left, V.bl.injEq, V.int.injEq, V.str.injEq, V.ref.injEq, List.cons.injEq, and_true, true_and, exists_and_left, and_assoc, List.append_nil]
        rw [lx_nl]
        refine ⟨⟨_, rfl⟩, by rw [T_len]; rfl, by rw [T_len]; exact tLn_len (evs_lens oks) (by decide) (by rw [List.length_map]; omega), fun q hq => ⟨⟨_, SqL.of upd_same⟩, r _ _ ⟨q, rfl, s4.nw hq, ?_, by cases z : H2 q with | none => rfl | some o => rw [s4 q o z] at hq; cases hq⟩⟩⟩
        rw [show Txt.split (T (tSt es)) (T [10]) = (es.map tEv).map T from tLn_spl (fun z => h0 (List.map_eq_nil_iff.mp z)) fun l hl => by
          obtain ⟨e, he, rfl⟩ := List.mem_map.mp hl
          exact tEv_nl (oks e he)]
        exact upd_same
  · rintro J H3 ⟨q, rfl, s4, eq, hq2⟩
    have hn : (((es.map tEv).map T).map V.str).length = es.length := by rw [List.length_map, List.length_map, List.length_map]
    have S3 := S.mono s4
    have nq : q ∉ p.all := fun z => by
      obtain ⟨o, e⟩ := S.some q z
      rw [hq2] at e
      cases e
    refine tFor_w (walk_list (a := q)) (fun R r => r) (fun i σ H' => (∃ x, σ = [some (.str (T (tSt es))), some (.ref a), x]) ∧ ∃ p', KeepF p H3 H' ∧ SubF p p' H3 ∧ SiteAt K H' a (SS.nil.doAll (es.take i)) p')
      ⟨⟨_, rfl⟩, p, KeepF.refl _ _, SubF.refl _ _, S3⟩ (fun i σ H' _ z => let ⟨_, p', k1, _, _⟩ := z; SqL.of (k1 _ _ nq eq)) ?_ ?_
    · rintro i x σ H4 H5 hi ⟨⟨u, rfl⟩, p', k1, k2, S5⟩ ⟨rfl, hx⟩
      rw [hn] at hi
      have hq : es[i]? = some es[i] := List.getElem?_eq_getElem hi
      generalize es[i] = e at hq
      rw [List.getElem?_map, List.getElem?_map, List.getElem?_map, hq] at hx
      cases hx
      obtain ⟨hw, hc⟩ := C.at hq
      simp only [tSl, tPart, tNoPart, tCKw, tVals, gStar, gCons, gNil, StX.tStar, tFmtS, tFmtI, tM0, tJs, tM1, rNewStrs, tMatch, setAll, lit_to, lit_page, lit_section, lit_gone, lit_exact, lit_open, tSeq, tAsg, tIfS, tRet, tRetN, tDrop, tNext, tNever, tOr, tAnd, tNot, tB, tTest, tCB, tCons, tVar, tC, tNil, tOp, tUn, tIf, tAndV, tOrV, tNotV, tChain, tTup, tLst, tCallR, tMethN, tMakeN, tPropN, tYes, gName, cx_K, cx_P, cx_w, rI0, rI, rEq, rNe, List.getElem?_cons_zero, List.getElem?_cons_succ, List.set_cons_zero, List.set_cons_succ, Option.some.injEq, exists_eq_left', exists_eq_left, V.bl.injEq, V.int.injEq, V.str.injEq, V.ref.injEq, List.cons.injEq, and_true, true_and, exists_and_left, and_assoc, List.append_nil]
      exact ⟨_, _, rfl, a, _, p', e, rfl, rfl, S5, hw, hc, fun H6 p6 k3 k4 S6 => ⟨⟨_, rfl⟩, k1.trans k2 k3, p6, k2.trans k1 k4, by rw [doAll_take hq]; exact S6⟩⟩
    · rintro σ H4 ⟨⟨u, rfl⟩, p', k1, k2, S5⟩
      rw [hn, List.take_length] at S5
      simp only [tSl, tPart, tNoPart, tCKw, tVals, gStar, gCons, gNil, StX.tStar, tFmtS, tFmtI, tM0, tJs, tM1, rNewStrs, tMatch, setAll, lit_to, lit_page, lit_section, lit_gone, lit_exact, lit_open, tSeq, tAsg, tIfS, tRet, tRetN, tDrop, tNext, tNever, tOr, tAnd, tNot, tB, tTest, tCB, tCons, tVar, tC, tNil, tOp, tUn, tIf, tAndV, tOrV, tNotV, tChain, tTup, tLst, tCallR, tMethN, tMakeN, tPropN, tYes, gName, cx_K, cx_P, cx_w, rI0, rI, rEq, rNe, List.getElem?_cons_zero, List.getElem?_cons_succ, List.set_cons_zero, List.set_cons_succ, Option.some.injEq, exists_eq_left', exists_eq_left, V.bl.injEq, V.int.injEq, V.str.injEq, V.ref.injEq, List.cons.injEq, and_true, true_and, exists_and_left, and_assoc, List.append_nil]
      refine ⟨_, rfl, a, _, p', rfl, S5, WL, fun H5 s6 => ?_⟩
      show scal _ _ = true ∧ (if (!decide (V.str (T (tSt (SS.nil.doAll es).ev)) = V.str (T (tSt es)))) = true then False else _)
      rw [hev, decide_eq_true rfl]
      refine ⟨rfl, k a p' H5 (fun b o e => s6 _ _ (k1 b o (fun z => ?_) (s4 _ _ (s3 b o e)))) haH (fun b hb => ?_) (S5.mono s6)⟩
      · have := hp0 b z
        rw [e] at this
        cases this
      · rcases k2 b hb with z | z
        · exact hp0 b z
        · exact nH (s3.trans s4) z
end
end K88
/-! Large whole numbers. -/
namespace K88
open PySem PySem.Spec PyProof.Rows L2
def CPowB (i j : Int) : Prop := 0 ≤ j ∧ (Builtin.Int.intBits i : Int) * j ≤ 2 ^ 27
theorem op_mulB {X : Cx} : OpR X (binaryOp .Mult) (rI IntMulOk fun i j => .int (i * j)) := opI fun _ _ _ _ _ _ _ hc q => mul_int q hc
theorem op_powB {X : Cx} : OpR X (binaryOp .Pow) (rI CPowB fun i j => .int (i ^ j.toNat)) := opI fun _ _ _ _ _ _ _ hc q => pow_int hc.1 hc.2 q
end K88
set_option maxHeartbeats 4000000
/-! A lambda with parameters: made, called as a key. -/
namespace K88
open PySem PySem.Spec PyProof.Rows L2 LamX
section
variable {X : Cx} {pins : List (Addr × Obj)} {σ : L2.St} {H : Hp} {s : Shared}
/-- the lambda is made, and known -/
theorem lam_mk {c P : Addr} {q : Str} {params : Arguments} {body : Expr} {scope : Scope} {pos : Pos} {E : Value → Shared → Prop} {Q : Value → Shared → Prop} (I : Inv X pins σ H s) (TB : TabB X.base X.mg c P) (hcode : X.env.code = .ref c)
    (hq : X.env.qual ++ "<lambda>" = q) (hT : TabS H P q) (hdef : defaultsOf params X.env = ([], [])) (hfree : ∀ y ∈ scope.names, y.2 = .free → ∃ c, X.env.cells.lookup y.1 = some c) (hcl : cloFrom X.env.cells scope.names [] = [])
    (h : ∀ (f c' : Addr) (pm ctv : Value) (H1 : Hp) (s' : Shared), Inv X pins σ H1 s' → ExtN H H1 → TabS H1 P q → H1 f = some (RawO f (PySem.W.kla_obj "<lambda>" q params body scope [] pm c' ctv)) → H1 c' = some (CodeO c' q) → Q (.ref f) s') :
    wpAny (model X.prog X.w) X.A (eval (.Lambda params body scope pos) X.env) Q E s := by
  obtain ⟨ps, hP, ht, ha⟩ := hT
  subst hq
  refine PySem.W.kla_eval hdef ?_
  have bP : s.heap.BuiltinsAt X.mg P := TB.bm.keeps I.bk
  have hP' : s.heap.get? P = some { cls := .none, data := .fields ps } := I.hok P _ hP
  cases hc : codeAmong pos ps.toList with
  | none =>
    refine PySem.W.kla_makeFunction (mg := X.mg) (c := c) (P := P) (ps := ps) (closure_ok hfree) I.ok.glob (I.mod.glob.keeps I.bk) hcode (TB.code.keeps I.bk) hP' ht hc TB.gP bP fun c' ctv h' tk hx hge hlt hrec htb => ?_
    obtain ⟨c2, oc, vs, t, e2, hoc, hd, hv⟩ := hrec
    cases e2
    rw [hcl]
    have hsz : s.heap.objs.size ≤ h'.objs.size := Nat.le_trans hge (Nat.le_of_lt hlt)
    have nC : H c' = none := I.hok.fresh hge
    have I1 := inv_table (t' := tk) (more := #[rawInt pos.line, rawInt pos.col, .ref c']) (h' := h') I hP (fun b o hb e => hx b o hb e) htb hge ⟨oc, vs, t, hoc, hd, hv⟩
    have hE : ExtN H (upd (upd H P (.tbl (ps ++ #[rawInt pos.line, rawInt pos.col, .ref c']))) c' (CodeO c' (X.env.qual ++ "<lambda>"))) := fun b o e n => by
      rw [upd_ne (ne_of_none e nC), upd_ne (fun z => n ps (Option.some.inj (e.symm.trans (by rw [z]; exact hP))))]
      exact e
    have eL : (ps ++ #[rawInt pos.line, rawInt pos.col, .ref c']).toList = ps.toList ++ [rawInt pos.line, rawInt pos.col, .ref c'] := by simp
    have T1 : TabS (upd (upd H P (.tbl (ps ++ #[rawInt pos.line, rawInt pos.col, .ref c']))) c' (CodeO c' (X.env.qual ++ "<lambda>"))) P (X.env.qual ++ "<lambda>") := by
      refine ⟨_, by rw [upd_ne (ne_of_none hP nC), upd_same], by rw [eL]; exact PySem.TriplesOk_snoc _ _ _ _ ht, fun p' cv hcv => ?_⟩
      rw [eL] at hcv
      rcases among_app _ ht hcv with z | z
      · obtain ⟨c0, e1, e2⟩ := ha p' cv z
        exact ⟨c0, e1, hE _ _ e2 codeO_ne⟩
      · exact ⟨c', z, upd_same⟩
    have nF := I1.hok.fresh (Nat.le_refl h'.objs.size)
    have I2 := I1.laid (a := h'.objs.size) (o := RawO h'.objs.size (PySem.W.kla_obj "<lambda>" (X.env.qual ++ "<lambda>") params body scope [] ((X.mg "__name__").getD .none) c' ctv)) (h' := h'.push (PySem.W.kla_obj "<lambda>" (X.env.qual ++ "<lambda>") params body scope [] ((X.mg "__name__").getD .none) c' ctv)) (t' := tk) (fun b u e => Heap.get?_push_of_some _ e) (Nat.le_refl _) (raw_ok (Heap.get?_push_size _ rfl))
    have sm := (Same.refl (upd (upd H P (.tbl (ps ++ #[rawInt pos.line, rawInt pos.col, .ref c']))) c' (CodeO c' (X.env.qual ++ "<lambda>")))).nw (o := RawO h'.objs.size (PySem.W.kla_obj "<lambda>" (X.env.qual ++ "<lambda>") params body scope [] ((X.mg "__name__").getD .none) c' ctv)) nF
    exact h h'.objs.size c' ((X.mg "__name__").getD .none) ctv _ _ I2 (hE.trans (ExtN.of sm)) (T1.ext sm) upd_same (sm _ _ upd_same)
  | some cv =>
    obtain ⟨c', e, hco⟩ := ha pos cv hc
    subst e
    refine PySem.W.kla_makeFunctionHit (mg := X.mg) (c := c) (P := P) (ps := ps) (closure_ok hfree) I.ok.glob (I.mod.glob.keeps I.bk) hcode (TB.code.keeps I.bk) hP' ht hc bP fun ctv h' tk hx hsz => ?_
    rw [hcl]
    have nF := I.hok.fresh hsz
    have I2 := I.laid (a := h'.objs.size) (o := RawO h'.objs.size (PySem.W.kla_obj "<lambda>" (X.env.qual ++ "<lambda>") params body scope [] ((X.mg "__name__").getD .none) c' ctv)) (h' := h'.push (PySem.W.kla_obj "<lambda>" (X.env.qual ++ "<lambda>") params body scope [] ((X.mg "__name__").getD .none) c' ctv)) (t' := tk) (fun b u e => Heap.get?_push_of_some _ (hx b u e)) hsz (raw_ok (Heap.get?_push_size _ rfl))
    have sm := (Same.refl H).nw (o := RawO h'.objs.size (PySem.W.kla_obj "<lambda>" (X.env.qual ++ "<lambda>") params body scope [] ((X.mg "__name__").getD .none) c' ctv)) nF
    exact h h'.objs.size c' ((X.mg "__name__").getD .none) ctv _ _ I2 (ExtN.of sm) (TabS.ext ⟨ps, hP, ht, ha⟩ sm) upd_same (sm _ _ hco)
def tMkLam (P : Addr) (q : Str) (params : Arguments) (body : Expr) (scope : Scope) : TE := fun _ H Q => TabS H P q ∧ ∀ (f c' : Addr) (pm ctv : Value) (H1 : Hp), ExtN H H1 → TabS H1 P q → H1 f = some (RawO f (PySem.W.kla_obj "<lambda>" q params body scope [] pm c' ctv)) → H1 c' = some (CodeO c' q) → Q (.ref f) H1
theorem pe_lam {c P : Addr} {q : Str} {params : Arguments} {body : Expr} {scope : Scope} {pos : Pos} (TB : TabB X.base X.mg c P) (hcode : X.env.code = .ref c) (hq : X.env.qual ++ "<lambda>" = q) (hdef : defaultsOf params X.env = ([], [])) (hfree : ∀ y ∈ scope.names, y.2 ≠ .free) (hcl : cloFrom X.env.cells scope.names [] = []) :
    PE X (.Lambda params body scope pos) (tMkLam P q params body scope) := by
  refine ⟨fun pins s σ H Q I h => ?_⟩
  obtain ⟨hT, h⟩ := h
  exact lam_mk I TB hcode hq hT hdef (fun y hy e => absurd e (hfree y hy)) hcl fun f c' pm ctv H1 s' I1 eN T1 hf hc => ⟨.ref f, H1, I1, rfl, h f c' pm ctv H1 eN T1 hf hc⟩
end
/-- the lambda is called -/
theorem run_lam {P : Program} {w : World} {K : PySem.W.Frag} {mg : Str → Option Value} {base : Heap} {k : Nat} {f c' : Addr} {qual : Str} {params : Arguments} {body : Expr} {scope : Scope} {pm ctv : Value} {N ps : List Str}
    {A : Around} {outer : List Env} {s : Shared} {H : Hp} {us : List Value} {vs : List V} {Q : VK} (of1 : s.heap.get? f = some (PySem.W.kla_obj "<lambda>" qual params body scope [] pm c' ctv)) (hco : s.heap.CodeRec (.ref c') qual) (S : FnScope N ps scope) (hr : Room (k + 1) A) (e0 : Env0 P w K mg base A outer s H)
    (hb : bindArgs (PySem.W.kla_fn "<lambda>" qual params body scope [] pm (.ref c') ctv) ⟨us, []⟩ = pure (ps.zip us)) (r : Vals vs us) (hl : vs.length = ps.length)
    (hbody : Room k (A.deeper (envOfC qual scope s.heap.objs.size f (.ref c'))) → ∃ t, PE (cxOf CX0 P w K mg base N qual scope f (.ref c') A outer s H E0) body t ∧ t (L2.start N vs) H Q) :
    codeAny (model P w) A (.call (.ref f) ⟨us, []⟩) (CR CX0 outer P w H s Q E0) s := by
  have lim : s.heap.NoLimit := e0.mod.nolimit.keeps fun b o e => (e0.bs b o e).1
  have hkind : ∀ y ∈ ps.zip us, scope.names.lookup y.1 = some .local ∨ (scope.names.lookup y.1 = some .cell ∧ ((cellsFrom (s.heap.objs.size + 1) scope.names []).lookup y.1).isSome = true) := fun ⟨n, v⟩ hy => by
    rcases S.par n (List.of_mem_zip hy).1 with q | q
    · exact .inl q
    · exact .inr ⟨q, PySem.W.cellsFrom_some _ _ _ (.inl q)⟩
  refine PySem.W.kla_callFunE hr.depth of1 rfl S.co S.gen rfl hco ?_
  rw [hb]
  refine wpAny_pure (wpAny_newFunctionEnv_cells S.kind hkind fun env he s1 x => ?_)
  subst he
  refine ⟨lim.keeps x.toInCall.keep, PySem.W.kla_codeExpr ?_⟩
  obtain ⟨t, ht, hq⟩ := hbody (hr.deeper _)
  have I : Inv (cxOf CX0 P w K mg base N qual scope f (.ref c') A outer s H E0) [] (L2.start N vs) H s1 := inv_start S hr.hd e0 hl r x
  refine wpAny_mono (ht.run [] s1 (L2.start N vs) H Q I hq) (fun v s' hs => ?_) fun e s' hs => hs
  obtain ⟨x', H', J, rv, q⟩ := hs
  exact ⟨x', H', J.os, J.bare, J.base, J.hok, rv, q⟩
/-- a lambda of one parameter as a key -/
theorem kc_lam {X : Cx} {k : Nat} {x q : Str} {N : List Str} {params : Arguments} {body : Expr} {scope : Scope} {sp : V → Hp → VK → Prop} (S : FnScope N [x] scope) (hr : Room (k + 3) X.A)
    (hb : ∀ (pm ctv cv u : Value), bindArgs (PySem.W.kla_fn "<lambda>" q params body scope [] pm cv ctv) ⟨[u], []⟩ = pure [(x, u)])
    (hbody : ∀ (f c' : Addr) (A : Around) (outer : List Env) (s : Shared) (H : Hp) (v : V) (Q : VK), Room k (A.deeper (envOfC q scope s.heap.objs.size f (.ref c'))) → sp v H Q → ∃ t, PE (cxOf CX0 X.prog X.w X.K X.mg X.base N q scope f (.ref c') A outer s H E0) body t ∧ t (L2.start N [v]) H Q) :
    KC X (fun f v H Q => ∃ c' pm ctv, H f = some (RawO f (PySem.W.kla_obj "<lambda>" q params body scope [] pm c' ctv)) ∧ H c' = some (CodeO c' q) ∧ sp v H Q) := by
  intro f pins s σ H v u Q I r h
  obtain ⟨c', pm, ctv, hf, hc, h⟩ := h
  obtain ⟨⟨oc, vs, t, hoc, hdc, hvc⟩, _, _⟩ := I.hok c' _ hc
  have hf1 : s.heap.get? f = some (PySem.W.kla_obj "<lambda>" q params body scope [] pm c' ctv) := (I.hok f _ hf).1
  refine wpAny_call (codeAny_mono (run_lam (vs := [v]) (Q := Q) hf1 ⟨c', oc, vs, t, rfl, hoc, hdc, hvc⟩ S hr.in1.in1 I.env0.in1.in1 (hb pm ctv (.ref c') u) (.cons r .nil) rfl fun hr' => hbody f c' _ _ s H v Q hr' h) fun r s' hq => ?_)
  cases r with
  | error er => exact False.elim hq
  | ok fl =>
    cases fl with
    | ret v => exact I.after hq
    | next => exact False.elim hq
    | brk => exact False.elim hq
    | cont => exact False.elim hq
end K88
set_option maxHeartbeats 4000000
/-! A def whose code object is known. -/
namespace K88
open PySem PySem.Spec PyProof.Rows L2 LamX
/-- the code object of the def at f is at c, its table at P -/
structure LamT (K : PySem.W.Frag) (mg : Str → Option Value) (base : Heap) (f c P : Addr) : Prop where
  lk : ∀ oc od fd osl, K.lookup f = some ⟨oc, od, .func fd, osl⟩ → fd.code = .ref c
  tb : TabB base mg c P
section
variable {P : Program} {w : World} {K : PySem.W.Frag} {mg : Str → Option Value} {base : Heap} {x qual : Str} {params : Arguments} {body : List Stmt} {scope : Scope} {f c : Addr} {fd : FuncData} {N ps : List Str} {k : Nat} {sp : Sp}
theorem fn_anyC (F : FunD K x qual params body scope [] [] f fd) (hc : ∀ oc od fd osl, K.lookup f = some ⟨oc, od, .func fd, osl⟩ → fd.code = .ref c) (S : FnScope N ps scope) (len : ∀ vs H Q E, sp vs H Q E → vs.length = ps.length)
    (hb : ∀ (kV doc pm : Value) (an : Option Addr) (cdv ct : Value) (us : List Value), us.length = ps.length → bindArgs (PySem.W.fnOf x qual params body scope .none kV doc pm an cdv ct) ⟨us, []⟩ = pure (ps.zip us))
    (hbody : ∀ (A : Around) (outer : List Env) (s : Shared) (H : Hp) (vs : List V) (Q : VK) (E : XK), Room k (A.deeper (envOfC qual scope s.heap.objs.size f (.ref c))) → sp vs H Q E →
      ∃ t, PSs (cxOf CX0 P w K mg base N qual scope f (.ref c) A outer s H E).nox body t ∧ t { nx := fun _ H' => Q .non H', rt := Q } (L2.start N vs) H) : FN P w K mg base (k + 1) f sp := by
  have G : FnOk P w K mg base CX0 (k + 1) f fd ps sp := by
    obtain ⟨oc, od, dV, kV, doc, pm, an, cdv, ct, osl, e, lk, hcd, _, _⟩ := F.ex
    have ec : fd.code = .ref c := hc _ _ _ _ lk
    rw [e] at ec lk ⊢
    have ec : cdv = .ref c := ec
    subst ec
    refine fn_of lk hcd S len fun A outer s H vs Q E hr h => ?_
    obtain ⟨t, ht, q⟩ := hbody A outer s H vs Q E hr h
    exact ⟨t, ht.nox, q⟩
  exact (G.raw (F.bindsN hb) .nil).imp fun vs H Q E h => by rw [List.append_nil]; exact h
end
end K88
set_option maxHeartbeats 4000000
/-! The draws of the law. -/
namespace K88
open PySem PySem.Spec PyProof.Rows L2
open PySem.Builtin.Int (intBits)
def kDig : Key := .inr "digits"
def kMix : Key := .inr "mixed"
/-- a well of draws -/
def WlAt (H : Hp) (l : Addr) : Prop := ∃ D M : Int, H l = some (.dK [(kDig, .int D), (kMix, .int M)]) ∧ 0 ≤ D ∧ 0 ≤ M ∧ M ≤ 4294967296
theorem wl_bits {M : Int} (h0 : 0 ≤ M) (h1 : M ≤ 4294967296) : intBits M ≤ 64 := intBits_le_64 (by omega) (by omega)
theorem kDM : kDig ≠ kMix := by decide +kernel
theorem valV_dig (x y : V) : valV [(kDig, x), (kMix, y)] kDig = some x := by simp [valV]
theorem valV_mix (x y : V) : valV [(kDig, x), (kMix, y)] kMix = some y := by simp [valV, kDM]
theorem putK_dig (x y v : V) : putK [(kDig, x), (kMix, y)] kDig v = [(kDig, v), (kMix, y)] := by simp [putK, kDM.symm]
theorem putK_mix (x y v : V) : putK [(kDig, x), (kMix, y)] kMix v = [(kDig, x), (kMix, v)] := by simp [putK, kDM]
theorem wl_dig {H : Hp} {l : Addr} {x y : V} (e : H l = some (.dK [(kDig, x), (kMix, y)])) : DGet H l (.str (Str.ofString "digits")) (some x) := by
  have := DGet.k (k := kDig) e
  rw [valV_dig] at this
  exact this
theorem wl_mix {H : Hp} {l : Addr} {x y : V} (e : H l = some (.dK [(kDig, x), (kMix, y)])) : DGet H l (.str (Str.ofString "mixed")) (some y) := by
  have := DGet.k (k := kMix) e
  rw [valV_mix] at this
  exact this
theorem wl_pdig {H : Hp} {l : Addr} {x y v : V} (e : H l = some (.dK [(kDig, x), (kMix, y)])) : DPut H l (.str (Str.ofString "digits")) v (upd H l (.dK [(kDig, v), (kMix, y)])) := .inl ⟨_, kDig, e, rfl, Nat.lt_of_lt_of_le (show 2 < 1000 by decide) (by decide), by rw [putK_dig]⟩
theorem wl_pmix {H : Hp} {l : Addr} {x y v : V} (e : H l = some (.dK [(kDig, x), (kMix, y)])) : DPut H l (.str (Str.ofString "mixed")) v (upd H l (.dK [(kDig, x), (kMix, v)])) := .inl ⟨_, kMix, e, rfl, Nat.lt_of_lt_of_le (show 2 < 1000 by decide) (by decide), by rw [putK_mix]⟩
theorem cpow {x j : Int} (h : intBits x ≤ 64) (h0 : 0 ≤ j) (h1 : j ≤ 1000) : CPowB x j := ⟨h0, Int.le_trans (Int.mul_le_mul (show (intBits x : Int) ≤ 64 by omega) h1 h0 (by decide)) (by decide)⟩
theorem mod_bits (z : Int) {m : Int} (h0 : 0 < m) (h1 : m ≤ 4294967296) : intBits (z % m) ≤ 64 := wl_bits (Int.emod_nonneg z (by omega)) (by have := Int.emod_lt_of_pos z h0; omega)
theorem mul64 {x y : Int} (h0 : 0 ≤ y) (h1 : y ≤ 4294967296) : IntMulOk x y := .of_right (wl_bits h0 h1)
section
variable {P : Program} {w : World} {K : PySem.W.Frag} {mg : Str → Option Value} {base : Heap}
abbrev N_law_well : List Str := ["_law_script", "_law_start", "_law_mixed", "_law_entry", "_law_digits"]
theorem sc_law_well : FnScope N_law_well ["_law_script", "_law_start"] (defScope s_law_well) := ⟨rfl, rfl, rfl, by decide +kernel, rfl, by decide +kernel, by decide +kernel⟩
theorem st_law_well (x0 x1 : V) : L2.start N_law_well [x0, x1] = [some x0, some x1, none, none, none] := rfl
def p_law_well : V → V → Hp → VK → Prop := fun v iv H Q => ∃ (a : Addr) (ns : List Int) (i : Nat), v = .ref a ∧ iv = .int (i : Int) ∧ SqL K H a (ns.map V.int) ∧ (∀ z ∈ ns, intBits z ≤ 1048576) ∧ i ≤ 4 ∧ ∀ l H', Same H H' → H l = none → WlAt H' l → Q (.ref l) H'
theorem ok_law_well (L : Lw K mg) : FN P w K mg base 1 a_law_well (sp2 (p_law_well (K := K))) := by
  obtain ⟨fd, F⟩ := L.law_well
  refine fn_any F sc_law_well (len2 rfl) (fun _ _ _ _ _ _ us hl => match us, hl with | [_, _], _ => rfl) fun cdv A outer s H vs Q E hr h => ?_
  obtain ⟨_, _, rfl, a, ns, i, rfl, rfl, hq, hb, hi, k⟩ := h
  have nd := sc_law_well.nd
  refine ⟨_, (pss_cons (ps_set (i := 2) nd rfl (Or.inl rfl) (pe_op op_add pe_int (pe_op op_mulB (pv 1) pe_int))) (pss_cons (ps_for PassesOwn.never rfl (pi_list (pv 0)) (pg_name (i := 3) nd rfl (Or.inl rfl)) (pss_one (ps_set (i := 2) nd rfl (Or.inl rfl) (pe_op op_add (pe_op op_mod (pe_callTy call_int1 (by rfl) L.z_int (by decide +kernel) (pa_cons (pe_op op_powB (pe_op op_add (pe_op op_add (pe_op op_mulB (pv 2) pe_int) (pe_op op_mulB (pv 3) (pv 3))) pe_int) pe_int) pa_nil)) pe_int) pe_int)))) (pss_cons (ps_set (i := 4) nd rfl (Or.inl rfl) (pe_ifExp (PW.pt (pw_and (pt_cmpR op_lt (pv 1) (pe_callB call_len (by rfl) L.z_len (by decide +kernel) (pa_cons (pv 0) pa_nil)) (nomark _)) (pw_and1 (pt_cmpR op_ge (pe_ix (ix_listK (K := K) rfl) (pv 0) (pv 1) (fun _ _ => rfl)) (pe_op op_powB pe_int pe_int) (nomark _))))) (pe_op op_sub (pe_ix (ix_listK (K := K) rfl) (pv 0) (pv 1) (fun _ _ => rfl)) (pe_op op_powB pe_int pe_int)) pe_int)) (pss_one (ps_ret (pe_disp (pps_cons pe_str (pv 4) (pps_cons pe_str (pv 2) pps_nil)) (by rfl) (by rfl) (fun z => by cases z) (by decide))))))), ?_⟩
  simp only [tSl, tPart, tNoPart, tCKw, tVals, gStar, gCons, gNil, StX.tStar, tFmtS, tFmtI, tM0, tJs, tM1, rNewStrs, tMatch, setAll, lit_to, lit_page, lit_section, lit_gone, lit_exact, lit_open, tAsg, tRet, tRetN, tDrop, tNext, tNever, tNot, tB, tTest, tCB, tCons, tVar, tC, tNil, tOp, tUn, tAndV, tOrV, tNotV, tChain, tTup, tLst, tCallR, tMethN, tMakeN, tPropN, tYes, gName, cx_K, cx_P, cx_w, rI0, rI, rEq, rNe, List.getElem?_cons_zero, List.getElem?_cons_succ, List.set_cons_zero, List.set_cons_succ, Option.some.injEq, exists_eq_left', exists_eq_left, V.bl.injEq, V.int.injEq, V.str.injEq, V.ref.injEq, List.cons.injEq, and_true, true_and, exists_and_left, and_assoc, List.append_nil, st_law_well]
  refine sasg ?_
  simp only [tSl, tPart, tNoPart, tCKw, tVals, gStar, gCons, gNil, StX.tStar, tFmtS, tFmtI, tM0, tJs, tM1, rNewStrs, tMatch, setAll, lit_to, lit_page, lit_section, lit_gone, lit_exact, lit_open, tSeq, tAsg, tIfS, tRet, tRetN, tDrop, tNext, tNever, tOr, tAnd, tNot, tB, tTest, tCB, tCons, tVar, tC, tNil, tOp, tUn, tIf, tAndV, tOrV, tNotV, tChain, tTup, tLst, tCallR, tMethN, tMakeN, tPropN, tYes, gName, cx_K, cx_P, cx_w, rI0, rI, rEq, rNe, List.getElem?_cons_zero, List.getElem?_cons_succ, List.set_cons_zero, List.set_cons_succ, Option.some.injEq, exists_eq_left', exists_eq_left, V.bl.injEq, V.int.injEq, V.str.injEq, V.ref.injEq, List.cons.injEq, and_true, true_and, exists_and_left, and_assoc, List.append_nil]
  refine ⟨.of_right (intBits_le_64 (by decide) (by decide)), ?_⟩
  refine sfor_w (walk_list (a := a)) (fun R r => ⟨_, rfl, a, rfl, ⟨_, hq⟩, r⟩) (fun _ σ H' => (∃ (M : Int), ∃ x, σ = [some (.ref a), some (.int (i : Int)), some (.int M), x, none] ∧ 0 ≤ M ∧ M ≤ 4294967296) ∧ H' = H) ⟨⟨_, _, rfl, by omega, by omega⟩, rfl⟩ (fun i σ H' _ z => by rw [z.2]; exact hq) ?_ ?_
  · rintro j x σ H1 H2 hj ⟨⟨M, x0, rfl, h1, h2⟩, rfl⟩ ⟨rfl, hx⟩
    rw [List.getElem?_map] at hx
    obtain ⟨z, hz, rfl⟩ := Option.map_eq_some_iff.mp hx
    have hz := hb z (List.mem_of_getElem? hz)
    have b1 := wl_bits h1 h2
    simp only [tSl, tPart, tNoPart, tCKw, tVals, gStar, gCons, gNil, StX.tStar, tFmtS, tFmtI, tM0, tJs, tM1, rNewStrs, tMatch, setAll, lit_to, lit_page, lit_section, lit_gone, lit_exact, lit_open, tSeq, tAsg, tIfS, tRet, tRetN, tDrop, tNext, tNever, tOr, tAnd, tNot, tB, tTest, tCB, tCons, tVar, tC, tNil, tOp, tUn, tIf, tAndV, tOrV, tNotV, tChain, tTup, tLst, tCallR, tMethN, tMakeN, tPropN, tYes, gName, cx_K, cx_P, cx_w, rI0, rI, rEq, rNe, List.getElem?_cons_zero, List.getElem?_cons_succ, List.set_cons_zero, List.set_cons_succ, Option.some.injEq, exists_eq_left', exists_eq_left, V.bl.injEq, V.int.injEq, V.str.injEq, V.ref.injEq, List.cons.injEq, and_true, true_and, exists_and_left, and_assoc, List.append_nil]
    have b2 : intBits (M * 70019 + z * z + 59) ≤ 3000000 := Nat.le_trans (intBits_add_le (intBits_add_le (intBits_mul_le b1 (wl_bits (M := 70019) (by decide) (by decide))) (intBits_mul_le hz hz)) (wl_bits (M := 59) (by decide) (by decide))) (by decide)
    have b3 : CPowB (M * 70019 + z * z + 59) 2 := by
      refine ⟨by decide, ?_⟩
      have : (2 : Int) ^ 27 = 134217728 := by decide
      omega
    refine ⟨mul64 (by decide) (by decide), IntMulOk.of_le hz hz (by decide), b3, .inl ⟨by decide, ?_, ?_⟩⟩
    · have := Int.emod_nonneg ((M * 70019 + z * z + 59) ^ Int.toNat 2) (b := 2147483489) (by decide)
      omega
    · have := Int.emod_lt_of_pos ((M * 70019 + z * z + 59) ^ Int.toNat 2) (b := 2147483489) (by decide)
      omega
  · rintro σ H1 ⟨⟨M, x0, rfl, h1, h2⟩, rfl⟩
    have c18 : CPowB 10 18 := cpow (wl_bits (by decide) (by decide)) (by decide) (by decide)
    have hlen : LenV K (.ref a) H1 ns.length := .inl ⟨_, hq, by rw [List.length_map]⟩
    refine asg_cut (Src := fun v H2 => Same H1 H2 ∧ ∃ D : Int, v = .int D ∧ 0 ≤ D) (fun R r => ?_) ?_
    · by_cases hd : i < ns.length
      · obtain ⟨z, hz⟩ : ∃ z, ns[i]? = some z := ⟨_, List.getElem?_eq_getElem hd⟩
        have hat : atI (ns.map V.int) (i : Int) = some (.int z) := atI_nat (by rw [List.getElem?_map, hz]; rfl)
        have hd' : (i : Int) < (ns.length : Int) := by omega
        by_cases hz2 : (10 : Int) ^ Int.toNat 18 ≤ z
        · refine ife_yes (fun R r => ?_) fun H3 s3 => ?_
          · simp only [tSl, tPart, tNoPart, tCKw, tVals, gStar, gCons, gNil, StX.tStar, tFmtS, tFmtI, tM0, tJs, tM1, rNewStrs, tMatch, setAll, lit_to, lit_page, lit_section, lit_gone, lit_exact, lit_open, tSeq, tAsg, tIfS, tRet, tRetN, tDrop, tNext, tNever, tOr, tAnd, tNot, tB, tTest, tCB, tCons, tVar, tC, tNil, tOp, tUn, tIf, tAndV, tOrV, tNotV, tChain, tTup, tLst, tCallR, tMethN, tMakeN, tPropN, tYes, gName, cx_K, cx_P, cx_w, rI0, rI, rEq, rNe, List.getElem?_cons_zero, List.getElem?_cons_succ, List.set_cons_zero, List.set_cons_succ, Option.some.injEq, exists_eq_left', exists_eq_left, V.bl.injEq, V.int.injEq, V.str.injEq, V.ref.injEq, List.cons.injEq, and_true, true_and, exists_and_left, and_assoc, List.append_nil, rIxL]
            refine ⟨_, hlen, ?_⟩
            rw [if_pos (decide_eq_true hd')]
            refine ⟨_, hq, _, hat, c18, _, rfl, ?_⟩
            rw [decide_eq_true hz2]
            exact r _ (Same.refl _)
          · simp only [tSl, tPart, tNoPart, tCKw, tVals, gStar, gCons, gNil, StX.tStar, tFmtS, tFmtI, tM0, tJs, tM1, rNewStrs, tMatch, setAll, lit_to, lit_page, lit_section, lit_gone, lit_exact, lit_open, tSeq, tAsg, tIfS, tRet, tRetN, tDrop, tNext, tNever, tOr, tAnd, tNot, tB, tTest, tCB, tCons, tVar, tC, tNil, tOp, tUn, tIf, tAndV, tOrV, tNotV, tChain, tTup, tLst, tCallR, tMethN, tMakeN, tPropN, tYes, gName, cx_K, cx_P, cx_w, rI0, rI, rEq, rNe, List.getElem?_cons_zero, List.getElem?_cons_succ, List.set_cons_zero, List.set_cons_succ, Option.some.injEq, exists_eq_left', exists_eq_left, V.bl.injEq, V.int.injEq, V.str.injEq, V.ref.injEq, List.cons.injEq, and_true, true_and, exists_and_left, and_assoc, List.append_nil, rIxL]
            exact ⟨_, s3.seq hq, _, hat, c18, _, rfl, r _ _ ⟨s3, _, rfl, by omega⟩⟩
        · refine ife_no (fun R r => ?_) fun H3 s3 => ?_
          · simp only [tSl, tPart, tNoPart, tCKw, tVals, gStar, gCons, gNil, StX.tStar, tFmtS, tFmtI, tM0, tJs, tM1, rNewStrs, tMatch, setAll, lit_to, lit_page, lit_section, lit_gone, lit_exact, lit_open, tSeq, tAsg, tIfS, tRet, tRetN, tDrop, tNext, tNever, tOr, tAnd, tNot, tB, tTest, tCB, tCons, tVar, tC, tNil, tOp, tUn, tIf, tAndV, tOrV, tNotV, tChain, tTup, tLst, tCallR, tMethN, tMakeN, tPropN, tYes, gName, cx_K, cx_P, cx_w, rI0, rI, rEq, rNe, List.getElem?_cons_zero, List.getElem?_cons_succ, List.set_cons_zero, List.set_cons_succ, Option.some.injEq, exists_eq_left', exists_eq_left, V.bl.injEq, V.int.injEq, V.str.injEq, V.ref.injEq, List.cons.injEq, and_true, true_and, exists_and_left, and_assoc, List.append_nil, rIxL]
            refine ⟨_, hlen, ?_⟩
            rw [if_pos (decide_eq_true hd')]
            refine ⟨_, hq, _, hat, c18, _, rfl, ?_⟩
            rw [decide_eq_false hz2]
            exact r _ (Same.refl _)
          · simp only [tSl, tPart, tNoPart, tCKw, tVals, gStar, gCons, gNil, StX.tStar, tFmtS, tFmtI, tM0, tJs, tM1, rNewStrs, tMatch, setAll, lit_to, lit_page, lit_section, lit_gone, lit_exact, lit_open, tSeq, tAsg, tIfS, tRet, tRetN, tDrop, tNext, tNever, tOr, tAnd, tNot, tB, tTest, tCB, tCons, tVar, tC, tNil, tOp, tUn, tIf, tAndV, tOrV, tNotV, tChain, tTup, tLst, tCallR, tMethN, tMakeN, tPropN, tYes, gName, cx_K, cx_P, cx_w, rI0, rI, rEq, rNe, List.getElem?_cons_zero, List.getElem?_cons_succ, List.set_cons_zero, List.set_cons_succ, Option.some.injEq, exists_eq_left', exists_eq_left, V.bl.injEq, V.int.injEq, V.str.injEq, V.ref.injEq, List.cons.injEq, and_true, true_and, exists_and_left, and_assoc, List.append_nil]
            exact r _ _ ⟨s3, _, rfl, by decide⟩
      · refine ife_no (fun R r => ?_) fun H3 s3 => ?_
        · simp only [tSl, tPart, tNoPart, tCKw, tVals, gStar, gCons, gNil, StX.tStar, tFmtS, tFmtI, tM0, tJs, tM1, rNewStrs, tMatch, setAll, lit_to, lit_page, lit_section, lit_gone, lit_exact, lit_open, tSeq, tAsg, tIfS, tRet, tRetN, tDrop, tNext, tNever, tOr, tAnd, tNot, tB, tTest, tCB, tCons, tVar, tC, tNil, tOp, tUn, tIf, tAndV, tOrV, tNotV, tChain, tTup, tLst, tCallR, tMethN, tMakeN, tPropN, tYes, gName, cx_K, cx_P, cx_w, rI0, rI, rEq, rNe, List.getElem?_cons_zero, List.getElem?_cons_succ, List.set_cons_zero, List.set_cons_succ, Option.some.injEq, exists_eq_left', exists_eq_left, V.bl.injEq, V.int.injEq, V.str.injEq, V.ref.injEq, List.cons.injEq, and_true, true_and, exists_and_left, and_assoc, List.append_nil, rIxL]
          refine ⟨_, hlen, ?_⟩
          rw [if_neg (fun z => hd (by have := of_decide_eq_true z; omega))]
          exact r _ (Same.refl _)
        · simp only [tSl, tPart, tNoPart, tCKw, tVals, gStar, gCons, gNil, StX.tStar, tFmtS, tFmtI, tM0, tJs, tM1, rNewStrs, tMatch, setAll, lit_to, lit_page, lit_section, lit_gone, lit_exact, lit_open, tSeq, tAsg, tIfS, tRet, tRetN, tDrop, tNext, tNever, tOr, tAnd, tNot, tB, tTest, tCB, tCons, tVar, tC, tNil, tOp, tUn, tIf, tAndV, tOrV, tNotV, tChain, tTup, tLst, tCallR, tMethN, tMakeN, tPropN, tYes, gName, cx_K, cx_P, cx_w, rI0, rI, rEq, rNe, List.getElem?_cons_zero, List.getElem?_cons_succ, List.set_cons_zero, List.set_cons_succ, Option.some.injEq, exists_eq_left', exists_eq_left, V.bl.injEq, V.int.injEq, V.str.injEq, V.ref.injEq, List.cons.injEq, and_true, true_and, exists_and_left, and_assoc, List.append_nil]
          exact r _ _ ⟨s3, _, rfl, by decide⟩
    · rintro _ H2 ⟨s2, D, rfl, hD⟩
      simp only [tSl, tPart, tNoPart, tCKw, tVals, gStar, gCons, gNil, StX.tStar, tFmtS, tFmtI, tM0, tJs, tM1, rNewStrs, tMatch, setAll, lit_to, lit_page, lit_section, lit_gone, lit_exact, lit_open, tSeq, tAsg, tIfS, tRet, tRetN, tDrop, tNext, tNever, tOr, tAnd, tNot, tB, tTest, tCB, tCons, tVar, tC, tNil, tOp, tUn, tIf, tAndV, tOrV, tNotV, tChain, tTup, tLst, tCallR, tMethN, tMakeN, tPropN, tYes, gName, cx_K, cx_P, cx_w, rI0, rI, rEq, rNe, List.getElem?_cons_zero, List.getElem?_cons_succ, List.set_cons_zero, List.set_cons_succ, Option.some.injEq, exists_eq_left', exists_eq_left, V.bl.injEq, V.int.injEq, V.str.injEq, V.ref.injEq, List.cons.injEq, and_true, true_and, exists_and_left, and_assoc, List.append_nil, tDisp, tPairs]
      refine fun p hp => ⟨upd_same, [(kDig, .int D), (kMix, .int M)], rfl, show 2 ≤ 15 by decide, ?_⟩
      rw [show mergeK [] [(kDig, V.int D), (kMix, V.int M)] = [(kDig, V.int D), (kMix, V.int M)] by simp [mergeK, putK, kDM]]
      exact k p _ ((s2.nw (o := .dK []) hp).mt (s2.free hp)) (s2.free hp) ⟨_, _, upd_same, hD, h1, h2⟩
abbrev N_law_draw : List Str := ["_law_well_here", "_law_many", "_law_found"]
theorem sc_law_draw : FnScope N_law_draw ["_law_well_here", "_law_many"] (defScope s_law_draw) := ⟨rfl, rfl, rfl, by decide +kernel, rfl, by decide +kernel, by decide +kernel⟩
theorem st_law_draw (x0 x1 : V) : L2.start N_law_draw [x0, x1] = [some x0, some x1, none] := rfl
def p_law_draw : V → V → Hp → VK → Prop := fun v mv H Q => ∃ (l : Addr) (m : Nat), v = .ref l ∧ mv = .int (m : Int) ∧ 1 ≤ m ∧ m ≤ 10000 ∧ WlAt H l ∧ ∀ (r : Nat) H', r < m → SameB l H H' → WlAt H' l → Q (.int (r : Int)) H'
theorem ok_law_draw (L : Lw K mg) : FN P w K mg base 1 a_law_draw (sp2 p_law_draw) := by
  obtain ⟨fd, F⟩ := L.law_draw
  refine fn_any F sc_law_draw (len2 rfl) (fun _ _ _ _ _ _ us hl => match us, hl with | [_, _], _ => rfl) fun cdv A outer s H vs Q E hr h => ?_
  obtain ⟨_, _, rfl, l, m, rfl, rfl, m1, m2, ⟨D, M, e, d0, h0, h1⟩, k⟩ := h
  have nd := sc_law_draw.nd
  refine ⟨_, (pss_cons (ps_if (pt_cmpR op_ge (pe_dget (hu_of hr) (pv 0) pe_str (fun _ _ => rfl)) (pv 1) (nomark _)) (pss_cons (ps_set (i := 2) nd rfl (Or.inl rfl) (pe_op op_mod (pe_callTy call_int1 (by rfl) L.z_int (by decide +kernel) (pa_cons (pe_dget (hu_of hr) (pv 0) pe_str (fun _ _ => rfl)) pa_nil)) (pv 1))) (pss_cons (ps_dput (hu_of hr) (pv 0) pe_str (pe_op op_fdiv (pe_dget (hu_of hr) (pv 0) pe_str (fun _ _ => rfl)) (pv 1)) rfl) (pss_one (ps_ret (pv 2))))) pss_nil) (pss_cons (ps_dput (hu_of hr) (pv 0) pe_str (pe_op op_mod (pe_callTy call_int1 (by rfl) L.z_int (by decide +kernel) (pa_cons (pe_op op_add (pe_op op_mulB (pe_dget (hu_of hr) (pv 0) pe_str (fun _ _ => rfl)) pe_int) pe_int) pa_nil)) pe_int) rfl) (pss_one (ps_ret (pe_op op_mod (pe_op op_fdiv (pe_op op_mod (pe_callTy call_int1 (by rfl) L.z_int (by decide +kernel) (pa_cons (pe_op op_powB (pe_op op_mod (pe_callTy call_int1 (by rfl) L.z_int (by decide +kernel) (pa_cons (pe_op op_powB (pe_dget (hu_of hr) (pv 0) pe_str (fun _ _ => rfl)) pe_int) pa_nil)) pe_int) pe_int) pa_nil)) pe_int) pe_int) (pv 1)))))), ?_⟩
  simp only [tSl, tPart, tNoPart, tCKw, tVals, gStar, gCons, gNil, StX.tStar, tFmtS, tFmtI, tM0, tJs, tM1, rNewStrs, tMatch, setAll, lit_to, lit_page, lit_section, lit_gone, lit_exact, lit_open, tSeq, tAsg, tIfS, tRet, tRetN, tDrop, tNext, tNever, tOr, tAnd, tNot, tB, tTest, tCB, tCons, tVar, tC, tNil, tOp, tUn, tIf, tAndV, tOrV, tNotV, tChain, tTup, tLst, tCallR, tMethN, tMakeN, tPropN, tYes, gName, cx_K, cx_P, cx_w, rI0, rI, rEq, rNe, List.getElem?_cons_zero, List.getElem?_cons_succ, List.set_cons_zero, List.set_cons_succ, Option.some.injEq, exists_eq_left', exists_eq_left, V.bl.injEq, V.int.injEq, V.str.injEq, V.ref.injEq, List.cons.injEq, and_true, true_and, exists_and_left, and_assoc, List.append_nil, st_law_draw, tDGet, sDPut, iteT]
  refine ⟨_, wl_dig e, D, rfl, ?_⟩
  have hm : (0 : Int) < m := by omega
  by_cases hd : (m : Int) ≤ D
  · rw [if_pos (decide_eq_true hd)]
    refine ⟨_, wl_dig e, .inl ⟨D, rfl, hm, _, wl_dig e, D, rfl, ⟨hm, by omega⟩, _, wl_pdig e, ?_⟩⟩
    obtain ⟨r, hr⟩ := Int.eq_ofNat_of_zero_le (Int.emod_nonneg D (b := (m : Int)) (by omega))
    rw [hr]
    exact k r _ (by have := Int.emod_lt_of_pos D hm; omega) (SameB.refl _ _).self ⟨_, _, upd_same, Int.ediv_nonneg d0 (by omega), h0, h1⟩
  · rw [if_neg (fun z => hd (of_decide_eq_true z))]
    refine ⟨_, wl_mix e, M, rfl, mul64 (by decide) (by decide), .inl ⟨by decide, _, wl_pmix e, _, wl_mix upd_same, _, rfl, cpow (mod_bits _ (by decide) (by decide)) (by decide) (by decide), .inl ⟨by decide, cpow (mod_bits _ (by decide) (by decide)) (by decide) (by decide), .inl ⟨by decide, ⟨by decide, by decide⟩, hm, ?_⟩⟩⟩⟩
    generalize ((M * 44111 + 5903) % 2147483647) ^ Int.toNat 2 % 2147483549 = z
    generalize z ^ Int.toNat 3 % 1000000021 / 17 = y
    obtain ⟨r, hr⟩ := Int.eq_ofNat_of_zero_le (Int.emod_nonneg y (b := (m : Int)) (by omega))
    rw [hr]
    exact k r _ (by have := Int.emod_lt_of_pos y hm; omega) (SameB.refl _ _).self ⟨_, _, upd_same, d0, Int.emod_nonneg _ (by decide), by have := Int.emod_lt_of_pos (M * 44111 + 5903) (b := 2147483647) (by decide); omega⟩
end
end K88
set_option maxHeartbeats 4000000
/-! Things drawn. -/
namespace K88
open PySem PySem.Spec PyProof.Rows L2
theorem WlAt.ne {H : Hp} {l p : Addr} {o : HO} (h : WlAt H l) (e : H p = some o) (n : ∀ kv, o ≠ .dK kv) : p ≠ l := fun z => by
  obtain ⟨D, M, q, _⟩ := h
  rw [z, q] at e
  cases e
  exact n _ rfl
theorem WlAt.same {H H' : Hp} {l : Addr} (h : WlAt H l) (s : Same H H') : WlAt H' l := by
  obtain ⟨D, M, q, r⟩ := h
  exact ⟨D, M, s _ _ q, r⟩
theorem SameB.mt {a p : Addr} {H H' : Hp} {o : HO} (s : SameB a H H') (h : H p = none) : SameB a H (upd H' p o) := fun b u hb e => (upd_ne (ne_of_none e h)).trans (s b u hb e)
theorem WlAt.upd {H : Hp} {l p : Addr} {o : HO} (h : WlAt H l) (n : p ≠ l) : WlAt (L2.upd H p o) l := by
  obtain ⟨D, M, q, r⟩ := h
  exact ⟨D, M, (upd_ne n.symm).trans q, r⟩
/-- the words drawn -/
def lws : List Wd := [[97], [98], [97, 97], [99]]
theorem lws_ok : ∀ w ∈ lws, OkW w := fun w hw => by
  simp only [lws, List.mem_cons, List.not_mem_nil, or_false] at hw
  rcases hw with rfl | rfl | rfl | rfl <;> exact ⟨by decide, by decide, by decide⟩
def OkL (m : Nat) (a : Ad) : Prop := a.length ≤ m ∧ ∀ w ∈ a, w ∈ lws
theorem OkL.ok {m : Nat} {a : Ad} (h : OkL m a) (hm : m ≤ 4) : OkA a := ⟨Nat.le_trans h.1 hm, fun w hw => lws_ok w (h.2 w hw)⟩
theorem lws_mem {x : V} (h : x ∈ [V.str (Str.ofString "a"), V.str (Str.ofString "b"), V.str (Str.ofString "aa"), V.str (Str.ofString "c")]) : ∃ w ∈ lws, x = vW w := by
  simp only [List.mem_cons, List.not_mem_nil, or_false] at h
  rcases h with rfl | rfl | rfl | rfl
  · exact ⟨[97], by decide, by decide +kernel⟩
  · exact ⟨[98], by decide, by decide +kernel⟩
  · exact ⟨[97, 97], by decide, by decide +kernel⟩
  · exact ⟨[99], by decide, by decide +kernel⟩
section
variable {P : Program} {w : World} {K : PySem.W.Frag} {mg : Str → Option Value} {base : Heap}
abbrev N_law_choose : List Str := ["_law_well_here", "_law_things"]
theorem sc_law_choose : FnScope N_law_choose ["_law_well_here", "_law_things"] (defScope s_law_choose) := ⟨rfl, rfl, rfl, by decide +kernel, rfl, by decide +kernel, by decide +kernel⟩
theorem st_law_choose (x0 x1 : V) : L2.start N_law_choose [x0, x1] = [some x0, some x1] := rfl
def p_law_choose : V → V → Hp → VK → Prop := fun v tv H Q => ∃ (l p : Addr) (xs : List V), v = .ref l ∧ tv = .ref p ∧ WlAt H l ∧ H p = some (.lst xs) ∧ xs ≠ [] ∧ xs.length ≤ 10000 ∧ ∀ x H', x ∈ xs → SameB l H H' → WlAt H' l → Q x H'
theorem ok_law_choose (L : Lw K mg) : FN P w K mg base 2 a_law_choose (sp2 p_law_choose) := by
  obtain ⟨fd, F⟩ := L.law_choose
  refine fn_any F sc_law_choose (len2 rfl) (fun _ _ _ _ _ _ us hl => match us, hl with | [_, _], _ => rfl) fun cdv A outer s H vs Q E hr h => ?_
  obtain ⟨_, _, rfl, l, p, xs, rfl, rfl, hw, hp, h0, hl, k⟩ := h
  have nd := sc_law_choose.nd
  refine ⟨_, (pss_one (ps_ret (pe_ix (ix_listK (K := K) rfl) (pv 1) (pe_g (ok_law_draw L) (hr.mono (by decide)) rfl L.g_law_draw L.law_draw.kp (pa_cons (pv 0) (pa_cons (pe_callB call_len (by rfl) L.z_len (by decide +kernel) (pa_cons (pv 1) pa_nil)) pa_nil))) (fun _ _ => rfl)))), ?_⟩
  simp only [tSl, tPart, tNoPart, tCKw, tVals, gStar, gCons, gNil, StX.tStar, tFmtS, tFmtI, tM0, tJs, tM1, rNewStrs, tMatch, setAll, lit_to, lit_page, lit_section, lit_gone, lit_exact, lit_open, tSeq, tAsg, tIfS, tRet, tRetN, tDrop, tNext, tNever, tOr, tAnd, tNot, tB, tTest, tCB, tCons, tVar, tC, tNil, tOp, tUn, tIf, tAndV, tOrV, tNotV, tChain, tTup, tLst, tCallR, tMethN, tMakeN, tPropN, tYes, gName, cx_K, cx_P, cx_w, rI0, rI, rEq, rNe, List.getElem?_cons_zero, List.getElem?_cons_succ, List.set_cons_zero, List.set_cons_succ, Option.some.injEq, exists_eq_left', exists_eq_left, V.bl.injEq, V.int.injEq, V.str.injEq, V.ref.injEq, List.cons.injEq, and_true, true_and, exists_and_left, and_assoc, List.append_nil, st_law_choose, rIxL]
  have hpl := hw.ne hp (fun _ z => nomatch z)
  refine ⟨xs.length, .inl ⟨xs, SqL.of hp, rfl⟩, _, _, rfl, l, xs.length, rfl, rfl, List.length_pos_iff.mpr h0, hl, hw, fun r H1 hr s1 hw1 => ?_⟩
  exact ⟨xs, _, rfl, SqL.of (s1 _ _ hpl hp), _, atI_nat (List.getElem?_eq_getElem hr), k _ _ (List.getElem_mem hr) s1 hw1⟩
abbrev N_law_address : List Str := ["_law_well_here", "_law_most", "_law_turn"]
theorem sc_law_address : FnScope N_law_address ["_law_well_here", "_law_most"] (defScope s_law_address) := ⟨rfl, rfl, rfl, by decide +kernel, rfl, by decide +kernel, by decide +kernel⟩
theorem st_law_address (x0 x1 : V) : L2.start N_law_address [x0, x1] = [some x0, some x1, none] := rfl
def p_law_address : V → V → Hp → VK → Prop := fun v mv H Q => ∃ (l : Addr) (m : Nat), v = .ref l ∧ mv = .int (m : Int) ∧ m ≤ 4 ∧ WlAt H l ∧ ∀ u a H', OkL m a → SameB l H H' → WlAt H' l → AdAt K H' u a → Q u H'
theorem ok_law_address (L : Lw K mg) : FN P w K mg base 3 a_law_address (sp2 (p_law_address (K := K))) := by
  obtain ⟨fd, F⟩ := L.law_address
  refine fn_any F sc_law_address (len2 rfl) (fun _ _ _ _ _ _ us hl => match us, hl with | [_, _], _ => rfl) fun cdv A outer s H vs Q E hr h => ?_
  obtain ⟨_, _, rfl, l, m, rfl, rfl, hm, hw, k⟩ := h
  have nd := sc_law_address.nd
  refine ⟨_, (pss_one (ps_ret (pe_callTy call_tuple_of (by rfl) L.z_tuple (by decide +kernel) (pa_cons (pe_lc (own := [("_law_turn", 2)]) (g := gName 2) rfl nd (pi_range1 rfl L.z_range (pa_cons (pe_g (ok_law_draw L) (hr.mono (by decide)) rfl L.g_law_draw L.law_draw.kp (pa_cons (pv 0) (pa_cons (pe_op op_add (pv 1) pe_int) pa_nil))) pa_nil)) (blkOk_by (N := N_law_address) (sc := defScope s_law_address) (by decide +kernel)) (fun _ _ _ _ _ => (pg_name (i := 2) nd rfl (Or.inl rfl))) (fun _ _ _ _ _ => pts_nil) (fun _ _ _ _ _ => (pe_g (ok_law_choose L) (hr.mono (by decide)) rfl L.g_law_choose L.law_choose.kp (pa_cons (pv 0) (pa_cons (pe_lst (pa_cons pe_str (pa_cons pe_str (pa_cons pe_str (pa_cons pe_str pa_nil))))) pa_nil))))) pa_nil)))), ?_⟩
  simp only [tSl, tPart, tNoPart, tCKw, tVals, gStar, gCons, gNil, StX.tStar, tFmtS, tFmtI, tM0, tJs, tM1, rNewStrs, tMatch, setAll, lit_to, lit_page, lit_section, lit_gone, lit_exact, lit_open, tSeq, tAsg, tIfS, tRet, tRetN, tDrop, tNext, tNever, tOr, tAnd, tNot, tB, tTest, tCB, tCons, tVar, tC, tNil, tOp, tUn, tIf, tAndV, tOrV, tNotV, tChain, tTup, tLst, tCallR, tMethN, tMakeN, tPropN, tYes, gName, cx_K, cx_P, cx_w, rI0, rI, rEq, rNe, List.getElem?_cons_zero, List.getElem?_cons_succ, List.set_cons_zero, List.set_cons_succ, Option.some.injEq, exists_eq_left', exists_eq_left, V.bl.injEq, V.int.injEq, V.str.injEq, V.ref.injEq, List.cons.injEq, and_true, true_and, exists_and_left, and_assoc, List.append_nil, st_law_address]
  refine tLc_cut (Src := fun J H1 => ∃ n, J = Itr 0 n ∧ n ≤ m ∧ SameB l H H1 ∧ WlAt H1 l) (fun R r => ?_) ?_
  · simp only [tSl, tPart, tNoPart, tCKw, tVals, gStar, gCons, gNil, StX.tStar, tFmtS, tFmtI, tM0, tJs, tM1, rNewStrs, tMatch, setAll, lit_to, lit_page, lit_section, lit_gone, lit_exact, lit_open, tSeq, tAsg, tIfS, tRet, tRetN, tDrop, tNext, tNever, tOr, tAnd, tNot, tB, tTest, tCB, tCons, tVar, tC, tNil, tOp, tUn, tIf, tAndV, tOrV, tNotV, tChain, tTup, tLst, tCallR, tMethN, tMakeN, tPropN, tYes, gName, cx_K, cx_P, cx_w, rI0, rI, rEq, rNe, List.getElem?_cons_zero, List.getElem?_cons_succ, List.set_cons_zero, List.set_cons_succ, Option.some.injEq, exists_eq_left', exists_eq_left, V.bl.injEq, V.int.injEq, V.str.injEq, V.ref.injEq, List.cons.injEq, and_true, true_and, exists_and_left, and_assoc, List.append_nil, iRng1]
    refine ⟨_, _, rfl, l, m + 1, rfl, rfl, by omega, by omega, hw, fun n H1 hn s1 hw1 => ⟨n, rfl, by omega, by omega, r _ _ ⟨n, by rw [Int.toNat_natCast], by omega, s1, hw1⟩⟩⟩
  · rintro J H1 ⟨n, rfl, hn, s1, hw1⟩
    refine tLc_w walk_range (fun R r => r) (fun D i H' => SameB l H1 H' ∧ WlAt H' l ∧ ∃ acc : Ad, H' D = some (.lst (acc.map vW)) ∧ acc.length = i ∧ ∀ w ∈ acc, w ∈ lws)
      (fun D hD => ⟨(SameB.refl _ _).nw hD, hw1.same ((Same.refl _).nw hD), [], upd_same, rfl, fun _ z => nomatch z⟩) (fun _ _ _ _ _ _ => trivial) ?_ ?_
    · rintro D i x H2 H3 hD hi ⟨s2, hw2, acc, eD, el, ha⟩ ⟨rfl, rfl⟩
      refine ⟨rfl, ?_⟩
      simp only [tSl, tPart, tNoPart, tCKw, tVals, gStar, gCons, gNil, StX.tStar, tFmtS, tFmtI, tM0, tJs, tM1, rNewStrs, tMatch, setAll, lit_to, lit_page, lit_section, lit_gone, lit_exact, lit_open, tSeq, tAsg, tIfS, tRet, tRetN, tDrop, tNext, tNever, tOr, tAnd, tNot, tB, tTest, tCB, tCons, tVar, tC, tNil, tOp, tUn, tIf, tAndV, tOrV, tNotV, tChain, tTup, tLst, tCallR, tMethN, tMakeN, tPropN, tYes, gName, cx_K, cx_P, cx_w, rI0, rI, rEq, rNe, List.getElem?_cons_zero, List.getElem?_cons_succ, List.set_cons_zero, List.set_cons_succ, Option.some.injEq, exists_eq_left', exists_eq_left, V.bl.injEq, V.int.injEq, V.str.injEq, V.ref.injEq, List.cons.injEq, and_true, true_and, exists_and_left, and_assoc, List.append_nil]
      refine ⟨_, rfl, szl rfl, fun p hp => ⟨_, _, rfl, l, p, _, rfl, rfl, hw2.same ((Same.refl _).nw hp), upd_same, List.cons_ne_nil _ _, by decide, fun y H4 hy s4 hw4 => ?_⟩⟩
      obtain ⟨wd, hwd, rfl⟩ := lws_mem hy
      have nD := hw2.ne eD (fun _ z => nomatch z)
      have eD4 := s4 _ _ nD ((upd_ne (ne_of_none eD hp)).trans eD)
      refine ⟨_, eD4, by rw [List.length_map]; exact Nat.lt_of_lt_of_le (show _ < 1000 by omega) (by decide), ((s2.nw (o := .lst _) hp).trans s4).mt hD, hw4.upd nD, acc ++ [wd], ?_, ?_, ?_⟩
      · rw [upd_same, List.map_append]
        rfl
      · rw [List.length_append, el]
        rfl
      · intro w hw
        rcases List.mem_append.mp hw with hw | hw
        · exact ha w hw
        · rw [List.mem_singleton.mp hw]
          exact hwd
    · rintro D H2 hD ⟨s2, hw2, acc, eD, el, ha⟩
      simp only [tSl, tPart, tNoPart, tCKw, tVals, gStar, gCons, gNil, StX.tStar, tFmtS, tFmtI, tM0, tJs, tM1, rNewStrs, tMatch, setAll, lit_to, lit_page, lit_section, lit_gone, lit_exact, lit_open, tSeq, tAsg, tIfS, tRet, tRetN, tDrop, tNext, tNever, tOr, tAnd, tNot, tB, tTest, tCB, tCons, tVar, tC, tNil, tOp, tUn, tIf, tAndV, tOrV, tNotV, tChain, tTup, tLst, tCallR, tMethN, tMakeN, tPropN, tYes, gName, cx_K, cx_P, cx_w, rI0, rI, rEq, rNe, List.getElem?_cons_zero, List.getElem?_cons_succ, List.set_cons_zero, List.set_cons_succ, Option.some.injEq, exists_eq_left', exists_eq_left, V.bl.injEq, V.int.injEq, V.str.injEq, V.ref.injEq, List.cons.injEq, and_true, true_and, exists_and_left, and_assoc, List.append_nil]
      exact ⟨_, .inl ⟨SqL.of eD, fun q hq => k _ acc _ ⟨by omega, ha⟩ ((s1.trans s2).nw hq) (hw2.same ((Same.refl _).nw hq)) ⟨q, rfl, .inl (.inl upd_same)⟩⟩⟩
abbrev N_law_rule : List Str := ["_law_well_here", "_law_most", "_law_sort", "_law_place", "_law_way"]
theorem sc_law_rule : FnScope N_law_rule ["_law_well_here", "_law_most"] (defScope s_law_rule) := ⟨rfl, rfl, rfl, by decide +kernel, rfl, by decide +kernel, by decide +kernel⟩
theorem st_law_rule (x0 x1 : V) : L2.start N_law_rule [x0, x1] = [some x0, some x1, none, none, none] := rfl
theorem mkR {H : Hp} {x : V} {a : Ad} {p q : Addr} {ex : Bool} {an : An} (ha : AdAt K H x a) (hn : AnAt K H (.ref p) an) (hq : H q = none) : RuAt K (upd H q (.tup [vW (sortOf ex), x, .ref p])) (.ref q) ⟨ex, a, an⟩ :=
  ⟨q, x, .ref p, rfl, .inl (.inl upd_same), ha.mono ((Same.refl _).nw hq), hn.mono ((Same.refl _).nw hq)⟩
theorem AdAt.sb {H H' : Hp} {l : Addr} {x : V} {a : Ad} (h : AdAt K H x a) (hw : WlAt H l) (s : SameB l H H') : AdAt K H' x a := by
  obtain ⟨D, M, q, _⟩ := hw
  exact h.kt (s.kt q trivial)
/-- a rule of the law -/
def OkLR (m : Nat) (r : Ru) : Prop := OkR r ∧ OkL m r.at_
def p_law_rule : V → V → Hp → VK → Prop := fun v mv H Q => ∃ (l : Addr) (m : Nat), v = .ref l ∧ mv = .int (m : Int) ∧ m ≤ 4 ∧ WlAt H l ∧ ∀ u r H', OkLR m r → SameB l H H' → WlAt H' l → RuAt K H' u r → Q u H'
theorem ok_law_rule (L : Lw K mg) : FN P w K mg base 4 a_law_rule (sp2 (p_law_rule (K := K))) := by
  obtain ⟨fd, F⟩ := L.law_rule
  refine fn_any F sc_law_rule (len2 rfl) (fun _ _ _ _ _ _ us hl => match us, hl with | [_, _], _ => rfl) fun cdv A outer s H vs Q E hr h => ?_
  obtain ⟨_, _, rfl, l, m, rfl, rfl, hm, hw, k⟩ := h
  have nd := sc_law_rule.nd
  refine ⟨_, (pss_cons (ps_par (i := 2) (j := 3) rfl nd rfl rfl (by decide) rfl rfl (pa_cons (pe_g (ok_law_choose L) (hr.mono (by decide)) rfl L.g_law_choose L.law_choose.kp (pa_cons (pv 0) (pa_cons (pe_lst (pa_cons pe_str (pa_cons pe_str (pa_cons pe_str pa_nil)))) pa_nil))) (pa_cons (pe_g (ok_law_address L) (hr.mono (by decide)) rfl L.g_law_address L.law_address.kp (pa_cons (pv 0) (pa_cons (pv 1) pa_nil))) pa_nil)) (by rfl)) (pss_cons (ps_set (i := 4) nd rfl (Or.inl rfl) (pe_g (ok_law_draw L) (hr.mono (by decide)) rfl L.g_law_draw L.law_draw.kp (pa_cons (pv 0) (pa_cons pe_int pa_nil)))) (pss_cons (ps_if (pt_cmpR op_eq (pv 4) pe_int (nomark _)) (pss_one (ps_ret (pe_tup (pa_cons (pv 2) (pa_cons (pv 3) (pa_cons (pe_tup (pa_cons pe_str pa_nil)) pa_nil)))))) pss_nil) (pss_cons (ps_if (pt_cmpR op_eq (pv 4) pe_int (nomark _)) (pss_one (ps_ret (pe_tup (pa_cons (pv 2) (pa_cons (pv 3) (pa_cons (pe_tup (pa_cons (pe_ix (ix_listK (K := K) rfl) (pe_lst (pa_cons pe_str (pa_cons pe_str pa_nil))) (pe_callTy call_int1 (by rfl) L.z_int (by decide +kernel) (pa_cons (pe_cmpR op_eq (pv 2) pe_str (nomark _)) pa_nil)) (fun _ _ => rfl)) (pa_cons (pe_g (ok_law_choose L) (hr.mono (by decide)) rfl L.g_law_choose L.law_choose.kp (pa_cons (pv 0) (pa_cons (pe_lst (pa_cons pe_str (pa_cons pe_str pa_nil))) pa_nil))) pa_nil))) pa_nil)))))) pss_nil) (pss_one (ps_ret (pe_tup (pa_cons (pv 2) (pa_cons (pv 3) (pa_cons (pe_tup (pa_cons pe_str (pa_cons (pe_g (ok_law_address L) (hr.mono (by decide)) rfl L.g_law_address L.law_address.kp (pa_cons (pv 0) (pa_cons (pv 1) pa_nil))) (pa_cons (pe_g (ok_law_choose L) (hr.mono (by decide)) rfl L.g_law_choose L.law_choose.kp (pa_cons (pv 0) (pa_cons (pe_lst (pa_cons pe_int (pa_cons pe_int (pa_cons pe_int (pa_cons pe_int (pa_cons pe_int pa_nil)))))) pa_nil))) pa_nil)))) pa_nil)))))))))), ?_⟩
  simp only [tSl, tPart, tNoPart, tCKw, tVals, gStar, gCons, gNil, StX.tStar, tFmtS, tFmtI, tM0, tJs, tM1, rNewStrs, tMatch, setAll, lit_to, lit_page, lit_section, lit_gone, lit_exact, lit_open, tSeq, tAsg, tIfS, tRet, tRetN, tDrop, tNext, tNever, tOr, tAnd, tNot, tB, tTest, tCB, tCons, tVar, tC, tNil, tOp, tUn, tIf, tAndV, tOrV, tNotV, tChain, tTup, tLst, tCallR, tMethN, tMakeN, tPropN, tYes, gName, cx_K, cx_P, cx_w, rI0, rI, rEq, rNe, List.getElem?_cons_zero, List.getElem?_cons_succ, List.set_cons_zero, List.set_cons_succ, Option.some.injEq, exists_eq_left', exists_eq_left, V.bl.injEq, V.int.injEq, V.str.injEq, V.ref.injEq, List.cons.injEq, and_true, true_and, exists_and_left, and_assoc, List.append_nil, st_law_rule, tPar]
  refine ⟨szl rfl, fun p hp => ⟨_, _, rfl, l, p, _, rfl, rfl, hw.same ((Same.refl _).nw hp), upd_same, List.cons_ne_nil _ _, by decide, fun y H1 hy s1 hw1 => ?_⟩⟩
  have s1 := ((SameB.refl l H).nw (o := .lst [vW sExact, vW sOpen, vW sOpen]) hp).trans s1
  obtain ⟨ex, rfl⟩ : ∃ ex, y = vW (sortOf ex) := by
    simp only [List.mem_cons, List.not_mem_nil, or_false] at hy
    rcases hy with rfl | rfl | rfl
    · exact ⟨true, rfl⟩
    · exact ⟨false, rfl⟩
    · exact ⟨false, rfl⟩
  refine ⟨_, _, rfl, l, m, rfl, rfl, hm, hw1, fun u a H2 oka s2 hw2 ha => ?_⟩
  have s2 := s1.trans s2
  have okA := oka.ok hm
  refine ⟨_, _, rfl, l, 6, rfl, rfl, by decide, by decide, hw2, fun n H3 hn s3 hw3 => ⟨rfl, ?_⟩⟩
  have ha3 := ha.sb hw2 s3
  have s3 := s2.trans s3
  by_cases h0 : n = 0
  · rw [if_pos (decide_eq_true (by rw [h0]; rfl))]
    refine ⟨szl rfl, fun p hp => ⟨szl rfl, fun q hq => ?_⟩⟩
    have t1 := (Same.refl H3).nw (o := .tup [vW sGone]) hp
    exact k _ ⟨ex, a, .gone⟩ _ ⟨⟨okA, trivial⟩, oka⟩ ((s3.nw hp).nw hq) ((hw3.same t1).same ((Same.refl _).nw hq)) (mkR (ha3.mono t1) ⟨p, rfl, .inl (.inl upd_same)⟩ hq)
  rw [if_neg (fun z => h0 (by have := V.int.inj (of_decide_eq_true z); omega))]
  refine ⟨rfl, ?_⟩
  by_cases h1 : n = 1
  · rw [if_pos (decide_eq_true (by rw [h1]; rfl))]
    refine ⟨szl rfl, fun p hp => ⟨rfl, .inr ?_⟩⟩
    have t1 := (Same.refl H3).nw (o := .lst [vW sSection, vW sPage]) hp
    have u1 := s3.nw (o := .lst [vW sSection, vW sPage]) hp
    have w1 := hw3.same t1
    have a1 := ha3.mono t1
    refine ⟨_, _, _, (if ex then vW sPage else vW sSection), rfl, rfl, SqL.of upd_same, ?_, szl rfl, fun q hq => ?_⟩
    · cases ex <;> rfl
    have t2 := (Same.refl (upd H3 p (.lst [vW sSection, vW sPage]))).nw (o := .lst [V.str (Str.ofString "home"), V.str (Str.ofString "s")]) hq
    have u2 := u1.nw (o := .lst [V.str (Str.ofString "home"), V.str (Str.ofString "s")]) hq
    have w2 := w1.same t2
    have a2 := a1.mono t2
    refine ⟨_, _, rfl, l, q, _, rfl, rfl, w2, upd_same, List.cons_ne_nil _ _, by decide, fun y H4 hy s4 hw4 => ⟨szl rfl, fun p2 hp2 => ⟨szl rfl, fun q2 hq2 => ?_⟩⟩⟩
    have a3 := a2.sb w2 s4
    have u3 := u2.trans s4
    obtain ⟨nm, hnm, rfl⟩ : ∃ nm, OkW nm ∧ y = vW nm := by
      simp only [List.mem_cons, List.not_mem_nil, or_false] at hy
      rcases hy with rfl | rfl
      · exact ⟨[104, 111, 109, 101], ⟨by decide, by decide, by decide⟩, by decide +kernel⟩
      · exact ⟨[115], ⟨by decide, by decide, by decide⟩, by decide +kernel⟩
    have t4 := (Same.refl H4).nw (o := .tup [if ex then vW sPage else vW sSection, vW nm]) hp2
    refine k _ ⟨ex, a, if ex then .page nm else .section nm⟩ _ ⟨⟨okA, ?_⟩, oka⟩ ((u3.nw hp2).nw hq2) ((hw4.same t4).same ((Same.refl _).nw hq2)) (mkR (a3.mono t4) ?_ hq2)
    · cases ex
      · exact ⟨rfl, hnm⟩
      · exact ⟨rfl, hnm⟩
    · cases ex
      · exact ⟨p2, rfl, .inl (.inl upd_same)⟩
      · exact ⟨p2, rfl, .inl (.inl upd_same)⟩
  · rw [if_neg (fun z => h1 (by have := V.int.inj (of_decide_eq_true z); omega))]
    refine ⟨_, _, rfl, l, m, rfl, rfl, hm, hw3, fun v t H4 okt s4 hw4 ht => ⟨szl rfl, fun q hq => ?_⟩⟩
    have a4 := ha3.sb hw3 s4
    have u4 := s3.trans s4
    have t2 := (Same.refl H4).nw (o := .lst [V.int 0, V.int 0, V.int 1, V.int 3, V.int 10000]) hq
    have w2 := hw4.same t2
    refine ⟨_, _, rfl, l, q, _, rfl, rfl, w2, upd_same, List.cons_ne_nil _ _, by decide, fun y H5 hy s5 hw5 => ⟨szl rfl, fun p2 hp2 => ⟨szl rfl, fun q2 hq2 => ?_⟩⟩⟩
    have a5 := (a4.mono t2).sb w2 s5
    have b5 := (ht.mono t2).sb w2 s5
    have u5 := (u4.nw hq).trans s5
    obtain ⟨d, hd, rfl⟩ : ∃ d : Nat, d ≤ 10000 ∧ y = .int (d : Int) := by
      simp only [List.mem_cons, List.not_mem_nil, or_false] at hy
      rcases hy with rfl | rfl | rfl | rfl | rfl
      · exact ⟨0, by decide, rfl⟩
      · exact ⟨0, by decide, rfl⟩
      · exact ⟨1, by decide, rfl⟩
      · exact ⟨3, by decide, rfl⟩
      · exact ⟨10000, by decide, rfl⟩
    have t4 := (Same.refl H5).nw (o := .tup [vW sTo, v, .int (d : Int)]) hp2
    exact k _ ⟨ex, a, .to t d⟩ _ ⟨⟨okA, okt.ok hm, hd⟩, oka⟩ ((u5.nw hp2).nw hq2) ((hw5.same t4).same ((Same.refl _).nw hq2)) (mkR (a5.mono t4) ⟨p2, v, rfl, .inl (.inl upd_same), b5.mono t4⟩ hq2)
end
end K88
set_option maxHeartbeats 4000000
/-! The rules of the law. -/
namespace K88
open PySem PySem.Spec PyProof.Rows L2
def putR (rs : List Ru) (r : Ru) : List Ru := if rs.any (fun x => decide (keyOf x = keyOf r)) = true then rs.map (fun x => if keyOf x = keyOf r then r else x) else rs ++ [r]
theorem putR_len (rs : List Ru) (r : Ru) : (putR rs r).length ≤ rs.length + 1 := by
  unfold putR
  split <;> simp
theorem putR_mem {rs : List Ru} {r x : Ru} (h : x ∈ putR rs r) : x ∈ rs ∨ x = r := by
  unfold putR at h
  split at h
  · obtain ⟨y, hy, e⟩ := List.mem_map.mp h
    split at e
    · exact .inr e.symm
    · exact .inl (e ▸ hy)
  · rcases List.mem_append.mp h with h | h
    · exact .inl h
    · exact .inr (List.mem_singleton.mp h)
theorem putR_nd {rs : List Ru} {r : Ru} (h : (rs.map keyOf).Nodup) : ((putR rs r).map keyOf).Nodup := by
  unfold putR
  split
  · rw [List.map_map, show (keyOf ∘ fun x => if keyOf x = keyOf r then r else x) = keyOf from funext fun x => by
      show keyOf (if keyOf x = keyOf r then r else x) = keyOf x
      split
      · rename_i e
        exact e.symm
      · rfl]
    exact h
  · rename_i n
    rw [List.map_append]
    refine List.nodup_append.mpr ⟨h, List.nodup_cons.mpr ⟨List.not_mem_nil, List.nodup_nil⟩, ?_⟩
    intro a ha b hb e
    obtain ⟨x, hx, rfl⟩ := List.mem_map.mp ha
    rw [List.mem_singleton.mp hb] at e
    exact n (List.any_eq_true.mpr ⟨x, hx, decide_eq_true e⟩)
theorem paired_map2 {α β : Type} {F G : α → β → Prop} {f : α → α} {g : β → β} (h : ∀ x y, F x y → G (f x) (g y)) : ∀ {l : List α} {m : List β}, Paired F l m → Paired G (l.map f) (m.map g)
  | _, _, .nil => .nil
  | _, _, .cons r t => .cons (h _ _ r) (paired_map2 h t)
theorem paired_mapL {α β γ : Type} {F : α → β → Prop} {G : γ → β → Prop} {f : α → γ} (h : ∀ x y, F x y → G (f x) y) : ∀ {l : List α} {m : List β}, Paired F l m → Paired G (l.map f) m
  | _, _, .nil => .nil
  | _, _, .cons r t => .cons (h _ _ r) (paired_mapL h t)
theorem paired_any {α β : Type} {F : α → β → Prop} {p : α → Bool} {q : β → Bool} (h : ∀ x y, F x y → p x = q y) : ∀ {l : List α} {m : List β}, Paired F l m → l.any p = m.any q
  | _, _, .nil => rfl
  | _, _, .cons r t => by rw [List.any_cons, List.any_cons, h _ _ r, paired_any h t]
section
variable {P : Program} {w : World} {K : PySem.W.Frag} {mg : Str → Option Value} {base : Heap}
def EnAt (K : PySem.W.Frag) (H : Hp) (e : Ent) (r : Ru) : Prop := e.1 = keyOf r ∧ RuAt K H e.2.2 r
theorem putN_pair {H : Hp} {es : List Ent} {rs : List Ru} {b : Addr} {v : V} {r : Ru} (h : Paired (EnAt K H) es rs) (hv : RuAt K H v r) : Paired (EnAt K H) (putN es (keyOf r) b v) (putR rs r) := by
  unfold putN putR
  rw [paired_any (q := fun x => decide (keyOf x = keyOf r)) (fun e x z => by rw [z.1]) h]
  split
  · refine paired_map2 (fun e x z => ?_) h
    by_cases q : keyOf x = keyOf r
    · rw [if_pos q, if_pos (z.1.trans q)]
      exact ⟨z.1.trans q, hv⟩
    · rw [if_neg q, if_neg (fun y => q (z.1.symm.trans y))]
      exact z
  · exact paired_snoc ⟨rfl, hv⟩ h
theorem putN_keys {H : Hp} {es : List Ent} {k : Ky} {b : Addr} {v : V} (h : KysAt K H es) (hb : KyAt K H b k) : KysAt K H (putN es k b v) := by
  intro e he
  unfold putN at he
  split at he
  · obtain ⟨x, hx, e1⟩ := List.mem_map.mp he
    split at e1
    · rw [← e1]
      exact h x hx
    · rw [← e1]
      exact h x hx
  · rcases List.mem_append.mp he with he | he
    · exact h e he
    · rw [List.mem_singleton.mp he]
      exact hb
abbrev N_law_rules : List Str := ["_law_well_here", "_law_many", "_law_most", "_law_found", "_law_turn", "_law_rule_here"]
theorem sc_law_rules : FnScope N_law_rules ["_law_well_here", "_law_many", "_law_most"] (defScope s_law_rules) := ⟨rfl, rfl, rfl, by decide +kernel, rfl, by decide +kernel, by decide +kernel⟩
theorem st_law_rules (x0 x1 x2 : V) : L2.start N_law_rules [x0, x1, x2] = [some x0, some x1, some x2, none, none, none] := rfl
def p_law_rules : V → V → V → Hp → VK → Prop := fun v nv mv H Q => ∃ (l : Addr) (n m : Nat), v = .ref l ∧ nv = .int (n : Int) ∧ mv = .int (m : Int) ∧ n ≤ 10 ∧ m ≤ 4 ∧ WlAt H l ∧
  ∀ p xs rs H', H p = none → H' p = some (.lst xs) → RusAt K H' xs rs → OkRs rs → rs.length ≤ n → SameB l H H' → WlAt H' l → Q (.ref p) H'
theorem ok_law_rules (L : Lw K mg) : FN P w K mg base 5 a_law_rules (sp3 (p_law_rules (K := K))) := by
  obtain ⟨fd, F⟩ := L.law_rules
  refine fn_any F sc_law_rules (len3 rfl) (fun _ _ _ _ _ _ us hl => match us, hl with | [_, _, _], _ => rfl) fun cdv A outer s H vs Q E hr h => ?_
  obtain ⟨_, _, _, rfl, l, n, m, rfl, rfl, rfl, hn, hm, hw, k⟩ := h
  have nd := sc_law_rules.nd
  refine ⟨_, (pss_cons (ps_set (i := 3) nd rfl (Or.inl rfl) pe_dnewN) (pss_cons (ps_for PassesOwn.never rfl (pi_range1 rfl L.z_range (pa_cons (pe_g (ok_law_draw L) (hr.mono (by decide)) rfl L.g_law_draw L.law_draw.kp (pa_cons (pv 0) (pa_cons (pe_op op_add (pv 1) pe_int) pa_nil))) pa_nil)) (pg_name (i := 4) nd rfl (Or.inl rfl)) (pss_cons (ps_set (i := 5) nd rfl (Or.inl rfl) (pe_g (ok_law_rule L) (hr.mono (by decide)) rfl L.g_law_rule L.law_rule.kp (pa_cons (pv 0) (pa_cons (pv 2) pa_nil)))) (pss_one (ps_dputN hr.units (pv 3) (pe_tup (pa_cons (pe_ix (ix_tupK (K := K) rfl) (pv 5) pe_int (fun _ _ => rfl)) (pa_cons (pe_ix (ix_tupK (K := K) rfl) (pv 5) pe_int (fun _ _ => rfl)) pa_nil))) (pv 5) rfl)))) (pss_one (ps_ret (pe_callTy (call_listVw rfl) (by rfl) L.z_list (by decide +kernel) (pa_cons (pe_values (pv 3)) pa_nil)))))), ?_⟩
  simp only [tSl, tPart, tNoPart, tCKw, tVals, gStar, gCons, gNil, StX.tStar, tFmtS, tFmtI, tM0, tJs, tM1, rNewStrs, tMatch, setAll, lit_to, lit_page, lit_section, lit_gone, lit_exact, lit_open, tSeq, tAsg, tIfS, tRet, tRetN, tDrop, tNext, tNever, tOr, tAnd, tNot, tB, tTest, tCB, tCons, tVar, tC, tNil, tOp, tUn, tIf, tAndV, tOrV, tNotV, tChain, tTup, tLst, tCallR, tMethN, tMakeN, tPropN, tYes, gName, cx_K, cx_P, cx_w, rI0, rI, rEq, rNe, List.getElem?_cons_zero, List.getElem?_cons_succ, List.set_cons_zero, List.set_cons_succ, Option.some.injEq, exists_eq_left', exists_eq_left, V.bl.injEq, V.int.injEq, V.str.injEq, V.ref.injEq, List.cons.injEq, and_true, true_and, exists_and_left, and_assoc, List.append_nil, st_law_rules, tDNewN]
  intro D hD
  have s0 := (SameB.refl l H).nw (o := DN P w D []) hD
  have w0 := hw.same ((Same.refl H).nw (o := DN P w D []) hD)
  refine tFor_cut (Src := fun J H1 => ∃ j, J = Itr 0 j ∧ j ≤ n ∧ SameB l (upd H D (DN P w D [])) H1 ∧ WlAt H1 l) (fun R r => ?_) ?_
  · simp only [tSl, tPart, tNoPart, tCKw, tVals, gStar, gCons, gNil, StX.tStar, tFmtS, tFmtI, tM0, tJs, tM1, rNewStrs, tMatch, setAll, lit_to, lit_page, lit_section, lit_gone, lit_exact, lit_open, tSeq, tAsg, tIfS, tRet, tRetN, tDrop, tNext, tNever, tOr, tAnd, tNot, tB, tTest, tCB, tCons, tVar, tC, tNil, tOp, tUn, tIf, tAndV, tOrV, tNotV, tChain, tTup, tLst, tCallR, tMethN, tMakeN, tPropN, tYes, gName, cx_K, cx_P, cx_w, rI0, rI, rEq, rNe, List.getElem?_cons_zero, List.getElem?_cons_succ, List.set_cons_zero, List.set_cons_succ, Option.some.injEq, exists_eq_left', exists_eq_left, V.bl.injEq, V.int.injEq, V.str.injEq, V.ref.injEq, List.cons.injEq, and_true, true_and, exists_and_left, and_assoc, List.append_nil, iRng1]
    refine ⟨_, _, rfl, l, n + 1, rfl, rfl, by omega, by omega, w0, fun j H1 hj s1 hw1 => ⟨j, rfl, by omega, by omega, r _ _ ⟨j, by rw [Int.toNat_natCast], by omega, s1, hw1⟩⟩⟩
  · rintro J H1 ⟨j, rfl, hj, s1, hw1⟩
    have nD : D ≠ l := fun z => by
      obtain ⟨_, _, q, _⟩ := hw
      rw [z, q] at hD
      cases hD
    refine tFor_w walk_range (fun R r => r) (fun i σ H' => (∃ x y, σ = [some (.ref l), some (.int (n : Int)), some (.int (m : Int)), some (.ref D), x, y]) ∧ SameB l H H' ∧ WlAt H' l ∧ ∃ es rs, H' D = some (DN P w D es) ∧ KysAt K H' es ∧ Paired (EnAt K H') es rs ∧ (∀ r ∈ rs, OkR r) ∧ (rs.map keyOf).Nodup ∧ rs.length ≤ i)
      ⟨⟨_, _, rfl⟩, s0.trans s1, hw1, [], [], s1 _ _ nD upd_same, (fun _ z => nomatch z), .nil, (fun _ z => nomatch z), List.nodup_nil, Nat.le_refl _⟩ (fun _ _ _ _ _ => trivial) ?_ ?_
    · rintro i x σ H2 H3 hi ⟨⟨u1, u2, rfl⟩, s2, hw2, es, rs, eD, ks, pr, okr, nd2, hl⟩ ⟨rfl, rfl⟩
      simp only [tSl, tPart, tNoPart, tCKw, tVals, gStar, gCons, gNil, StX.tStar, tFmtS, tFmtI, tM0, tJs, tM1, rNewStrs, tMatch, setAll, lit_to, lit_page, lit_section, lit_gone, lit_exact, lit_open, tSeq, tAsg, tIfS, tRet, tRetN, tDrop, tNext, tNever, tOr, tAnd, tNot, tB, tTest, tCB, tCons, tVar, tC, tNil, tOp, tUn, tIf, tAndV, tOrV, tNotV, tChain, tTup, tLst, tCallR, tMethN, tMakeN, tPropN, tYes, gName, cx_K, cx_P, cx_w, rI0, rI, rEq, rNe, List.getElem?_cons_zero, List.getElem?_cons_succ, List.set_cons_zero, List.set_cons_succ, Option.some.injEq, exists_eq_left', exists_eq_left, V.bl.injEq, V.int.injEq, V.str.injEq, V.ref.injEq, List.cons.injEq, and_true, true_and, exists_and_left, and_assoc, List.append_nil, sDPutN]
      refine ⟨_, _, rfl, l, m, rfl, rfl, hm, hw2, fun u r H4 okr4 s4 hw4 hr => ?_⟩
      obtain ⟨t, x, y, rfl, q, hx, hy⟩ := id hr
      obtain ⟨pa, rfl, qa⟩ := id hx
      have kt4 : KeepT H3 H4 := by
        obtain ⟨_, _, z, _⟩ := hw2
        exact s4.kt z trivial
      have eD4 := s4 _ _ nD eD
      refine ixT_at (i := 0) q rfl (ixT_at (i := 1) q rfl ⟨szl rfl, fun b hb => ?_⟩)
      have t5 := (Same.refl H4).nw (o := .tup [vW (sortOf r.ex), .ref pa]) hb
      have eD5 := t5 _ _ eD4
      have eb := upd_same (H := H4) (a := b) (o := .tup [vW (sortOf r.ex), .ref pa])
      have w5 := hw4.same t5
      have s5 := (s2.trans s4).nw (o := .tup [vW (sortOf r.ex), .ref pa]) hb
      have ks5 := (ks.kt kt4).kt t5.kt
      have pr5 : Paired (EnAt K (upd H4 b (.tup [vW (sortOf r.ex), .ref pa]))) es rs := paired_imp pr fun _ _ z => ⟨z.1, (z.2.kt kt4).mono t5⟩
      have r5 := hr.mono t5
      have qa5 := t5.sqt qa
      generalize upd H4 b (.tup [vW (sortOf r.ex), .ref pa]) = H5 at *
      have kb5 : KyAt K H5 b (keyOf r) := ⟨pa, .inl (.inl eb), qa5⟩
      have kt6 : KeepT H5 (upd H5 D (DN P w D (putN es (keyOf r) b (.ref t)))) := (Same.refl H5).kt.mut eD5 trivial
      have hel := Paired.length pr
      refine ⟨es, eD5, ks5, Nat.lt_of_lt_of_le (show es.length < 1000 by omega) (by decide), keyOf r, kb5, ⟨_, rfl⟩, s5.mt hD, w5.upd nD, _, upd_same, (putN_keys ks5 kb5).kt kt6, putR rs r, paired_imp (putN_pair pr5 r5) fun _ _ z => ⟨z.1, z.2.kt kt6⟩, ?_, putR_nd nd2, ?_⟩
      · intro z hz
        rcases putR_mem hz with hz | rfl
        · exact okr z hz
        · exact okr4.1
      · have := putR_len rs r
        omega
    · rintro σ H2 ⟨⟨u1, u2, rfl⟩, s2, hw2, es, rs, eD, ks, pr, okr, nd2, hl⟩
      simp only [tSl, tPart, tNoPart, tCKw, tVals, gStar, gCons, gNil, StX.tStar, tFmtS, tFmtI, tM0, tJs, tM1, rNewStrs, tMatch, setAll, lit_to, lit_page, lit_section, lit_gone, lit_exact, lit_open, tSeq, tAsg, tIfS, tRet, tRetN, tDrop, tNext, tNever, tOr, tAnd, tNot, tB, tTest, tCB, tCons, tVar, tC, tNil, tOp, tUn, tIf, tAndV, tOrV, tNotV, tChain, tTup, tLst, tCallR, tMethN, tMakeN, tPropN, tYes, gName, cx_K, cx_P, cx_w, rI0, rI, rEq, rNe, List.getElem?_cons_zero, List.getElem?_cons_succ, List.set_cons_zero, List.set_cons_succ, Option.some.injEq, exists_eq_left', exists_eq_left, V.bl.injEq, V.int.injEq, V.str.injEq, V.ref.injEq, List.cons.injEq, and_true, true_and, exists_and_left, and_assoc, List.append_nil, rListVw]
      refine ⟨es, eD, ks, fun v hv => ?_⟩
      have t3 := (Same.refl H2).nw (o := VwO v D) hv
      have eD3 := t3 _ _ eD
      refine ⟨D, upd_same, es, eD3, ks.kt t3.kt, fun p hp => ?_⟩
      have t4 := t3.nw (o := .lst (es.map fun x => x.2.2)) hp
      have hp2 : H2 p = none := (Same.refl H2).nw (o := VwO v D) hv |>.free hp
      have hpH : H p = none := by
        cases z : H p with
        | none => rfl
        | some o =>
          have := s2 p o (fun y => by obtain ⟨_, _, q, _⟩ := hw2; rw [y, q] at hp2; cases hp2) z
          rw [hp2] at this
          cases this
      refine k p _ rs _ hpH upd_same ?_ ⟨okr, nd2, by omega⟩ (by omega) ((s2.nw hv).nw hp) (hw2.same t4)
      have pr4 : Paired (EnAt K (upd (upd H2 v (VwO v D)) p (.lst (es.map fun x => x.2.2)))) es rs := paired_imp pr fun _ _ z => ⟨z.1, z.2.mono t4⟩
      exact paired_mapL (fun _ _ z => z.2) pr4
end
end K88
set_option maxHeartbeats 4000000
/-! The texts, by the law. -/
namespace K88
open PySem PySem.Spec PyProof.Rows L2
theorem seq_cut {a u : L2.TS} {D : Ends} {σ : L2.St} {H : Hp} {Src : L2.St → Hp → Prop} (hw : ∀ R : L2.St → Hp → Prop, (∀ σ1 H1, Src σ1 H1 → R σ1 H1) → a { D with nx := R } σ H) (h : ∀ σ1 H1, Src σ1 H1 → u D σ1 H1) : tSeq a u D σ H :=
  hw _ h
theorem sasg_cut {te : TE} {i : Nat} {u : L2.TS} {D : Ends} {σ : L2.St} {H : Hp} {Src : V → Hp → Prop} (hw : ∀ R : VK, (∀ v H1, Src v H1 → R v H1) → te σ H R) (h : ∀ v H1, Src v H1 → u D (σ.set i (some v)) H1) : tSeq (tAsg te (gName i)) u D σ H :=
  hw _ h
theorem lw {x : String} {a : Wd} (h : Str.ofString x = T a) : V.str (Str.ofString x) = vW a := congrArg V.str h
theorem ly_star : Str.ofString "/*" = T [47, 42] := by decide +kernel
theorem ly_for : Str.ofString " for " = T (32 :: (sFor ++ [32])) := by decide +kernel
def kvA : List (Key × V) := [(kW sPut, .str (T (32 :: (sAt ++ [32])))), (kW sBring, .str (T (32 :: (sAt ++ [32])))), (kW sMove, .str (T (32 :: (sTo ++ [32]))))]
theorem kPB : kW sPut ≠ kW sBring := fun e => absurd (kW_inj e) (by decide)
theorem kPM : kW sPut ≠ kW sMove := fun e => absurd (kW_inj e) (by decide)
theorem kBM : kW sBring ≠ kW sMove := fun e => absurd (kW_inj e) (by decide)
theorem kvA_merge : mergeK [] kvA = kvA := by simp [mergeK, kvA, putK, kPB, kPM, kBM]
theorem kvA_get (vb : Vb) : valV kvA (kW vb.w) = some (.str (T (32 :: (prep vb ++ [32])))) := by
  cases vb
  · simp [valV, kvA, Vb.w, prep]
  · simp [valV, kvA, Vb.w, prep, kPM, kBM]
  · simp [valV, kvA, Vb.w, prep, kPB]
section
variable {P : Program} {w : World} {K : PySem.W.Frag} {mg : Str → Option Value} {base : Heap}
abbrev N_law_address_text : List Str := ["_law_address_here"]
theorem sc_law_address_text : FnScope N_law_address_text ["_law_address_here"] (defScope s_law_address_text) := ⟨rfl, rfl, rfl, by decide +kernel, rfl, by decide +kernel, by decide +kernel⟩
theorem st_law_address_text (x0 : V) : L2.start N_law_address_text [x0] = [some x0] := rfl
theorem ok_law_address_text (L : Lw K mg) : FN P w K mg base 1 a_law_address_text (sp1 (p_address_text (K := K))) := by
  obtain ⟨fd, F⟩ := L.law_address_text
  refine fn_any F sc_law_address_text (len1 rfl) (fun _ _ _ _ _ _ us hl => match us, hl with | [_], _ => rfl) fun cdv A outer s H vs Q E hr h => ?_
  obtain ⟨_, rfl, a, ⟨p, rfl, hp⟩, ok, k⟩ := h
  have nd := sc_law_address_text.nd
  refine ⟨_, (pss_one (ps_ret (pe_op op_add_str pe_str (pe_join pe_str (pe_callTy call_list_of (by rfl) L.z_list (by decide +kernel) (pa_cons (pv 0) pa_nil)))))), ?_⟩
  simp only [tSl, tPart, tNoPart, tCKw, tVals, gStar, gCons, gNil, StX.tStar, tFmtS, tFmtI, tM0, tJs, tM1, rNewStrs, tMatch, setAll, lit_to, lit_page, lit_section, lit_gone, lit_exact, lit_open, tSeq, tAsg, tIfS, tRet, tRetN, tDrop, tNext, tNever, tOr, tAnd, tNot, tB, tTest, tCB, tCons, tVar, tC, tNil, tOp, tUn, tIf, tAndV, tOrV, tNotV, tChain, tTup, tLst, tCallR, tMethN, tMakeN, tPropN, tYes, gName, cx_K, cx_P, cx_w, rI0, rI, rEq, rNe, List.getElem?_cons_zero, List.getElem?_cons_succ, List.set_cons_zero, List.set_cons_succ, Option.some.injEq, exists_eq_left', exists_eq_left, V.bl.injEq, V.int.injEq, V.str.injEq, V.ref.injEq, List.cons.injEq, and_true, true_and, exists_and_left, and_assoc, List.append_nil, st_law_address_text]
  rw [vW_map] at hp
  have h1 := sum_len 12 a fun x hx => (ok.ok x hx).hi
  have h2 := ok.hi
  refine ⟨⟨_, rfl⟩, _, .inr hp, fun l hl => ⟨a.map T, .inl (SqL.of upd_same), ?_, ?_, ?_⟩⟩
  · rw [List.map_map, List.length_map, show (List.map (Str.length ∘ T) a) = a.map List.length from List.map_congr_left fun x _ => T_len x, lx_slash, T_len]
    show (a.map List.length).sum + a.length * 1 ≤ 16777216
    omega
  · have h3 := tAd_len ok
    rw [lx_slash, SX.join_S, T_len, T_len]
    show 1 + (TL.joinL [47] a).length ≤ _
    exact Nat.le_trans (show _ ≤ 1000 by have : (tAd a).length = (TL.joinL [47] a).length + 1 := rfl
                                         omega) (by decide)
  · rw [lx_slash, SX.join_S, T_cat]
    exact k _ ((Same.refl H).nw hl)
abbrev N_law_rule_text : List Str := ["_law_rule_here", "_law_sort", "_law_place", "_law_answer", "_law_head", "_law_tail"]
theorem sc_law_rule_text : FnScope N_law_rule_text ["_law_rule_here"] (defScope s_law_rule_text) := ⟨rfl, rfl, rfl, by decide +kernel, rfl, by decide +kernel, by decide +kernel⟩
theorem st_law_rule_text (x0 : V) : L2.start N_law_rule_text [x0] = [some x0, none, none, none, none, none] := rfl
theorem ok_law_rule_text (L : Lw K mg) : FN P w K mg base 2 a_law_rule_text (sp1 (p_rule_text (K := K))) := by
  obtain ⟨fd, F⟩ := L.law_rule_text
  refine fn_any F sc_law_rule_text (len1 rfl) (fun _ _ _ _ _ _ us hl => match us, hl with | [_], _ => rfl) fun cdv A outer s H vs Q E hr h => ?_
  obtain ⟨_, rfl, ⟨ex, a, an⟩, ⟨p, x, y, rfl, q, hx, hy⟩, ok, k⟩ := h
  have oka : OkA a := ok.at_
  have okn : OkAn ex an := ok.an
  have q : SqT K H p [vW (sortOf ex), x, y] := q
  have hx : AdAt K H x a := hx
  have hy : AnAt K H y an := hy
  have nd := sc_law_rule_text.nd
  refine ⟨_, (pss_cons (ps_asg (pv 0) (pg_tup rfl (pgs_cons (pg_name (i := 1) nd rfl (Or.inl rfl)) (pgs_cons (pg_name (i := 2) nd rfl (Or.inl rfl)) (pgs_cons (pg_name (i := 3) nd rfl (Or.inl rfl)) pgs_nil))))) (pss_cons (ps_set (i := 4) nd rfl (Or.inl rfl) (pe_g (ok_law_address_text L) (hr.mono (by decide)) rfl L.g_law_address_text L.law_address_text.kp (pa_cons (pv 2) pa_nil))) (pss_cons (ps_if (pt_cmpR op_eq (pv 1) pe_str (nomark _)) (pss_one (ps_set (i := 4) nd rfl (Or.inl rfl) (pe_ifExp (pt_cmpR (op_neD hr.units) (pv 2) (pe_tup pa_nil) (nomark _)) (pe_op op_add_str (pv 4) pe_str) pe_str))) pss_nil) (pss_cons (ps_if (pt_cmpR op_ne (pe_ix (ix_tupK (K := K) rfl) (pv 3) pe_int (fun _ _ => rfl)) pe_str (nomark _)) (pss_one (ps_ret (pe_op op_add_str (pe_op op_add_str (pv 4) pe_str) (pe_join pe_str (pe_callTy call_list_of (by rfl) L.z_list (by decide +kernel) (pa_cons (pv 3) pa_nil)))))) pss_nil) (pss_cons (ps_set (i := 5) nd rfl (Or.inl rfl) (pe_ifExp (pt_cmpR op_gt (pe_ix (ix_tupK (K := K) rfl) (pv 3) pe_int (fun _ _ => rfl)) pe_int (nomark _)) (pe_op op_add_str pe_str (pe_callTy call_str_int (by rfl) L.z_str (by decide +kernel) (pa_cons (pe_ix (ix_tupK (K := K) rfl) (pv 3) pe_int (fun _ _ => rfl)) pa_nil))) pe_str)) (pss_one (ps_ret (pe_op op_add_str (pe_op op_add_str (pe_op op_add_str (pv 4) pe_str) (pe_g (ok_law_address_text L) (hr.mono (by decide)) rfl L.g_law_address_text L.law_address_text.kp (pa_cons (pe_ix (ix_tupK (K := K) rfl) (pv 3) pe_int (fun _ _ => rfl)) pa_nil))) (pv 5))))))))), ?_⟩
  simp only [tSl, tPart, tNoPart, tCKw, tVals, gStar, gCons, gNil, StX.tStar, tFmtS, tFmtI, tM0, tJs, tM1, rNewStrs, tMatch, setAll, lit_to, lit_page, lit_section, lit_gone, lit_exact, lit_open, tAsg, tRet, tRetN, tDrop, tNext, tNever, tNot, tB, tTest, tCB, tCons, tVar, tC, tNil, tOp, tUn, tAndV, tOrV, tNotV, tChain, tTup, tLst, tCallR, tMethN, tMakeN, tPropN, tYes, gName, cx_K, cx_P, cx_w, rI0, rI, rEq, rNe, List.getElem?_cons_zero, List.getElem?_cons_succ, List.set_cons_zero, List.set_cons_succ, Option.some.injEq, exists_eq_left', exists_eq_left, V.bl.injEq, V.int.injEq, V.str.injEq, V.ref.injEq, List.cons.injEq, and_true, true_and, exists_and_left, and_assoc, List.append_nil, st_law_rule_text]
  have lp := tPl_len (ex := ex) oka
  refine seq_cut (Src := fun σ H1 => Same H H1 ∧ σ = [some (.ref p), some (vW (sortOf ex)), some x, some y, none, none]) (fun R rr => ?_) ?_
  · simp only [tSl, tPart, tNoPart, tCKw, tVals, gStar, gCons, gNil, StX.tStar, tFmtS, tFmtI, tM0, tJs, tM1, rNewStrs, tMatch, setAll, lit_to, lit_page, lit_section, lit_gone, lit_exact, lit_open, tSeq, tAsg, tIfS, tRet, tRetN, tDrop, tNext, tNever, tOr, tAnd, tNot, tB, tTest, tCB, tCons, tVar, tC, tNil, tOp, tUn, tIf, tAndV, tOrV, tNotV, tChain, tTup, tLst, tCallR, tMethN, tMakeN, tPropN, tYes, gName, cx_K, cx_P, cx_w, rI0, rI, rEq, rNe, List.getElem?_cons_zero, List.getElem?_cons_succ, List.set_cons_zero, List.set_cons_succ, Option.some.injEq, exists_eq_left', exists_eq_left, V.bl.injEq, V.int.injEq, V.str.injEq, V.ref.injEq, List.cons.injEq, and_true, true_and, exists_and_left, and_assoc, List.append_nil, gTup, gCons, gNil]
    exact ⟨_, q, rfl, _, _, rfl, _, _, rfl, _, _, rfl, rfl, rr _ _ ⟨Same.refl _, rfl⟩⟩
  rintro _ H0 ⟨s0, rfl⟩
  have hx2 := hx.mono s0
  have hy := hy.mono s0
  refine sasg_cut (Src := fun v H2 => v = .str (T (tAd a)) ∧ Same H0 H2) (fun R rr => ?_) ?_
  · simp only [tSl, tPart, tNoPart, tCKw, tVals, gStar, gCons, gNil, StX.tStar, tFmtS, tFmtI, tM0, tJs, tM1, rNewStrs, tMatch, setAll, lit_to, lit_page, lit_section, lit_gone, lit_exact, lit_open, tSeq, tAsg, tIfS, tRet, tRetN, tDrop, tNext, tNever, tOr, tAnd, tNot, tB, tTest, tCB, tCons, tVar, tC, tNil, tOp, tUn, tIf, tAndV, tOrV, tNotV, tChain, tTup, tLst, tCallR, tMethN, tMakeN, tPropN, tYes, gName, cx_K, cx_P, cx_w, rI0, rI, rEq, rNe, List.getElem?_cons_zero, List.getElem?_cons_succ, List.set_cons_zero, List.set_cons_succ, Option.some.injEq, exists_eq_left', exists_eq_left, V.bl.injEq, V.int.injEq, V.str.injEq, V.ref.injEq, List.cons.injEq, and_true, true_and, exists_and_left, and_assoc, List.append_nil]
    exact ⟨_, rfl, a, hx2, oka, fun H1 s1 => rr _ _ ⟨rfl, s1⟩⟩
  rintro _ H2 ⟨rfl, s1⟩
  refine seq_cut (Src := fun σ H3 => Same H0 H3 ∧ σ = [some (.ref p), some (vW (sortOf ex)), some x, some y, some (.str (T (tPl ex a))), none]) (fun R rr => ?_) ?_
  · cases ex with
    | true =>
      refine if_no (fun R r => ?_) fun H3 s2 => rr _ _ ⟨s1.trans s2, rfl⟩
      simp only [tSl, tPart, tNoPart, tCKw, tVals, gStar, gCons, gNil, StX.tStar, tFmtS, tFmtI, tM0, tJs, tM1, rNewStrs, tMatch, setAll, lit_to, lit_page, lit_section, lit_gone, lit_exact, lit_open, tSeq, tAsg, tIfS, tRet, tRetN, tDrop, tNext, tNever, tOr, tAnd, tNot, tB, tTest, tCB, tCons, tVar, tC, tNil, tOp, tUn, tIf, tAndV, tOrV, tNotV, tChain, tTup, tLst, tCallR, tMethN, tMakeN, tPropN, tYes, gName, cx_K, cx_P, cx_w, rI0, rI, rEq, rNe, List.getElem?_cons_zero, List.getElem?_cons_succ, List.set_cons_zero, List.set_cons_succ, Option.some.injEq, exists_eq_left', exists_eq_left, V.bl.injEq, V.int.injEq, V.str.injEq, V.ref.injEq, List.cons.injEq, and_true, true_and, exists_and_left, and_assoc, List.append_nil]
      exact ⟨rfl, r _ (Same.refl _)⟩
    | false =>
      refine if_yes (fun R r => ?_) fun H3 s2 => ?_
      · simp only [tSl, tPart, tNoPart, tCKw, tVals, gStar, gCons, gNil, StX.tStar, tFmtS, tFmtI, tM0, tJs, tM1, rNewStrs, tMatch, setAll, lit_to, lit_page, lit_section, lit_gone, lit_exact, lit_open, tSeq, tAsg, tIfS, tRet, tRetN, tDrop, tNext, tNever, tOr, tAnd, tNot, tB, tTest, tCB, tCons, tVar, tC, tNil, tOp, tUn, tIf, tAndV, tOrV, tNotV, tChain, tTup, tLst, tCallR, tMethN, tMakeN, tPropN, tYes, gName, cx_K, cx_P, cx_w, rI0, rI, rEq, rNe, List.getElem?_cons_zero, List.getElem?_cons_succ, List.set_cons_zero, List.set_cons_succ, Option.some.injEq, exists_eq_left', exists_eq_left, V.bl.injEq, V.int.injEq, V.str.injEq, V.ref.injEq, List.cons.injEq, and_true, true_and, exists_and_left, and_assoc, List.append_nil]
        exact ⟨rfl, r _ (Same.refl _)⟩
      · simp only [tSl, tPart, tNoPart, tCKw, tVals, gStar, gCons, gNil, StX.tStar, tFmtS, tFmtI, tM0, tJs, tM1, rNewStrs, tMatch, setAll, lit_to, lit_page, lit_section, lit_gone, lit_exact, lit_open, tSeq, tAsg, tIfS, tRet, tRetN, tDrop, tNext, tNever, tOr, tAnd, tNot, tB, tTest, tCB, tCons, tVar, tC, tNil, tOp, tUn, tIf, tAndV, tOrV, tNotV, tChain, tTup, tLst, tCallR, tMethN, tMakeN, tPropN, tYes, gName, cx_K, cx_P, cx_w, rI0, rI, rEq, rNe, List.getElem?_cons_zero, List.getElem?_cons_succ, List.set_cons_zero, List.set_cons_succ, Option.some.injEq, exists_eq_left', exists_eq_left, V.bl.injEq, V.int.injEq, V.str.injEq, V.ref.injEq, List.cons.injEq, and_true, true_and, exists_and_left, and_assoc, List.append_nil]
        refine ⟨Nat.zero_le _, fun q2 hq2 => ?_⟩
        have s3 := (s1.trans s2).nw (o := .tup []) hq2
        refine ⟨dA a, dA [], (hx2.mono s3).dp, .tup (SqT.of upd_same) .nil, shaped_A oka.ok, by decide, ?_⟩
        rw [eqv_A]
        by_cases h0 : a = []
        · subst h0
          refine ⟨_, rfl, iteF (rr _ _ ⟨s3, ?_⟩)⟩
          rw [ly_star]
          rfl
        · rw [decide_eq_false h0]
          refine ⟨_, rfl, iteT ⟨?_, rr _ _ ⟨s3, ?_⟩⟩⟩
          · rw [ly_star, T_len, T_len]
            have h3 := tAd_len oka
            exact Nat.le_trans (show (tAd a).length + 2 ≤ 100 by omega) (by decide)
          · rw [ly_star, T_cat]
            have e : tPl false a = tAd a ++ [47, 42] := (if_neg Bool.false_ne_true).trans (if_neg h0)
            rw [e]
  rintro _ H3 ⟨s3, rfl⟩
  have hy3 := hy.mono s3
  have fin : ∀ (t : Addr) (H4 : Hp), Same H H4 → SqT K H4 t ((wAn an).map vW) → (∀ w ∈ wAn an, w.length ≤ 12) → (wAn an).length ≤ 2 → (T (tPl ex a)).length + (Str.ofString " ").length ≤ sizeLine ∧ (∃ a, Str.ofString " " = a) ∧ ∃ x, (SqL K H4 t x ∨ SqT K H4 t x) ∧ ∀ (l : Addr), H4 l = none →
      ∃ x_1, (SqL K (upd H4 l (HO.lst x)) l (List.map V.str x_1) ∨ SqT K (upd H4 l (HO.lst x)) l (List.map V.str x_1)) ∧ (List.map (fun x => x.length) x_1).sum + x_1.length * (Str.ofString " ").length ≤ 16777216 ∧
        (T (tPl ex a) ++ Str.ofString " ").length + (Txt.join (Str.ofString " ") x_1).length ≤ sizeLine ∧ Q (V.str (T (tPl ex a) ++ Str.ofString " " ++ Txt.join (Str.ofString " ") x_1)) (upd H4 l (HO.lst x)) := fun t H4 s4 qt hl h2 => by
    have h1 := sum_len 12 (wAn an) hl
    have h3 := joinL_len [32] 12 (wAn an) hl
    have h4 : (wAn an).length * (12 + 1) ≤ 2 * 13 := Nat.mul_le_mul h2 (Nat.le_refl _)
    have h5 : (wAn an).length * 12 ≤ 2 * 12 := Nat.mul_le_mul h2 (Nat.le_refl _)
    have h6 : (TL.joinL [32] (wAn an)).length ≤ 26 := Nat.le_trans h3 h4
    rw [lx_sp]
    refine ⟨by rw [T_len, T_len]; exact Nat.le_trans (show (tPl ex a).length + 1 ≤ 100 by omega) (by decide), ⟨_, rfl⟩, _, .inr qt, fun l hl => ⟨(wAn an).map T, .inl (SqL.of (by rw [← vW_map]; exact upd_same)), ?_, ?_, ?_⟩⟩
    · rw [List.map_map, List.length_map, show (List.map ((fun x => x.length) ∘ T) (wAn an)) = (wAn an).map List.length from List.map_congr_left fun x _ => T_len x, T_len]
      show _ + (wAn an).length * 1 ≤ _
      omega
    · rw [show Txt.join (T [32]) ((wAn an).map T) = T (TL.joinL [32] (wAn an)) from SX.join_S [32] _, T_cat, T_len, T_len, List.length_append]
      exact Nat.le_trans (show (tPl ex a).length + 1 + _ ≤ 200 by omega) (by decide)
    · rw [show Txt.join (T [32]) ((wAn an).map T) = T (TL.joinL [32] (wAn an)) from SX.join_S [32] _, T_cat, T_cat, ← tAn_join, List.append_assoc]
      exact k _ (s4.nw hl)
  have s03 := s0.trans s3
  cases an with
  | gone =>
    obtain ⟨t, rfl, qt⟩ := hy3
    refine sif_yes (fun R r => ?_) fun H4 s4 => ?_
    · simp only [tSl, tPart, tNoPart, tCKw, tVals, gStar, gCons, gNil, StX.tStar, tFmtS, tFmtI, tM0, tJs, tM1, rNewStrs, tMatch, setAll, lit_to, lit_page, lit_section, lit_gone, lit_exact, lit_open, tSeq, tAsg, tIfS, tRet, tRetN, tDrop, tNext, tNever, tOr, tAnd, tNot, tB, tTest, tCB, tCons, tVar, tC, tNil, tOp, tUn, tIf, tAndV, tOrV, tNotV, tChain, tTup, tLst, tCallR, tMethN, tMakeN, tPropN, tYes, gName, cx_K, cx_P, cx_w, rI0, rI, rEq, rNe, List.getElem?_cons_zero, List.getElem?_cons_succ, List.set_cons_zero, List.set_cons_succ, Option.some.injEq, exists_eq_left', exists_eq_left, V.bl.injEq, V.int.injEq, V.str.injEq, V.ref.injEq, List.cons.injEq, and_true, true_and, exists_and_left, and_assoc, List.append_nil]
      exact ixT_at (i := 0) qt rfl ⟨rfl, r _ (Same.refl _)⟩
    · simp only [tSl, tPart, tNoPart, tCKw, tVals, gStar, gCons, gNil, StX.tStar, tFmtS, tFmtI, tM0, tJs, tM1, rNewStrs, tMatch, setAll, lit_to, lit_page, lit_section, lit_gone, lit_exact, lit_open, tSeq, tAsg, tIfS, tRet, tRetN, tDrop, tNext, tNever, tOr, tAnd, tNot, tB, tTest, tCB, tCons, tVar, tC, tNil, tOp, tUn, tIf, tAndV, tOrV, tNotV, tChain, tTup, tLst, tCallR, tMethN, tMakeN, tPropN, tYes, gName, cx_K, cx_P, cx_w, rI0, rI, rEq, rNe, List.getElem?_cons_zero, List.getElem?_cons_succ, List.set_cons_zero, List.set_cons_succ, Option.some.injEq, exists_eq_left', exists_eq_left, V.bl.injEq, V.int.injEq, V.str.injEq, V.ref.injEq, List.cons.injEq, and_true, true_and, exists_and_left, and_assoc, List.append_nil]
      exact fin t H4 (s03.trans s4) (s4.sqt qt) (fun w hw => by rw [List.mem_singleton.mp hw]; decide) (by decide)
  | page n =>
    obtain ⟨t, rfl, qt⟩ := hy3
    refine sif_yes (fun R r => ?_) fun H4 s4 => ?_
    · simp only [tSl, tPart, tNoPart, tCKw, tVals, gStar, gCons, gNil, StX.tStar, tFmtS, tFmtI, tM0, tJs, tM1, rNewStrs, tMatch, setAll, lit_to, lit_page, lit_section, lit_gone, lit_exact, lit_open, tSeq, tAsg, tIfS, tRet, tRetN, tDrop, tNext, tNever, tOr, tAnd, tNot, tB, tTest, tCB, tCons, tVar, tC, tNil, tOp, tUn, tIf, tAndV, tOrV, tNotV, tChain, tTup, tLst, tCallR, tMethN, tMakeN, tPropN, tYes, gName, cx_K, cx_P, cx_w, rI0, rI, rEq, rNe, List.getElem?_cons_zero, List.getElem?_cons_succ, List.set_cons_zero, List.set_cons_succ, Option.some.injEq, exists_eq_left', exists_eq_left, V.bl.injEq, V.int.injEq, V.str.injEq, V.ref.injEq, List.cons.injEq, and_true, true_and, exists_and_left, and_assoc, List.append_nil]
      exact ixT_at (i := 0) qt rfl ⟨rfl, r _ (Same.refl _)⟩
    · simp only [tSl, tPart, tNoPart, tCKw, tVals, gStar, gCons, gNil, StX.tStar, tFmtS, tFmtI, tM0, tJs, tM1, rNewStrs, tMatch, setAll, lit_to, lit_page, lit_section, lit_gone, lit_exact, lit_open, tSeq, tAsg, tIfS, tRet, tRetN, tDrop, tNext, tNever, tOr, tAnd, tNot, tB, tTest, tCB, tCons, tVar, tC, tNil, tOp, tUn, tIf, tAndV, tOrV, tNotV, tChain, tTup, tLst, tCallR, tMethN, tMakeN, tPropN, tYes, gName, cx_K, cx_P, cx_w, rI0, rI, rEq, rNe, List.getElem?_cons_zero, List.getElem?_cons_succ, List.set_cons_zero, List.set_cons_succ, Option.some.injEq, exists_eq_left', exists_eq_left, V.bl.injEq, V.int.injEq, V.str.injEq, V.ref.injEq, List.cons.injEq, and_true, true_and, exists_and_left, and_assoc, List.append_nil]
      refine fin t H4 (s03.trans s4) (s4.sqt qt) (fun w hw => ?_) (show 2 ≤ 2 from Nat.le_refl _)
      rcases List.mem_cons.mp hw with rfl | hw
      · decide
      · rw [List.mem_singleton.mp hw]
        exact okn.2.hi
  | «section» n =>
    obtain ⟨t, rfl, qt⟩ := hy3
    refine sif_yes (fun R r => ?_) fun H4 s4 => ?_
    · simp only [tSl, tPart, tNoPart, tCKw, tVals, gStar, gCons, gNil, StX.tStar, tFmtS, tFmtI, tM0, tJs, tM1, rNewStrs, tMatch, setAll, lit_to, lit_page, lit_section, lit_gone, lit_exact, lit_open, tSeq, tAsg, tIfS, tRet, tRetN, tDrop, tNext, tNever, tOr, tAnd, tNot, tB, tTest, tCB, tCons, tVar, tC, tNil, tOp, tUn, tIf, tAndV, tOrV, tNotV, tChain, tTup, tLst, tCallR, tMethN, tMakeN, tPropN, tYes, gName, cx_K, cx_P, cx_w, rI0, rI, rEq, rNe, List.getElem?_cons_zero, List.getElem?_cons_succ, List.set_cons_zero, List.set_cons_succ, Option.some.injEq, exists_eq_left', exists_eq_left, V.bl.injEq, V.int.injEq, V.str.injEq, V.ref.injEq, List.cons.injEq, and_true, true_and, exists_and_left, and_assoc, List.append_nil]
      exact ixT_at (i := 0) qt rfl ⟨rfl, r _ (Same.refl _)⟩
    · simp only [tSl, tPart, tNoPart, tCKw, tVals, gStar, gCons, gNil, StX.tStar, tFmtS, tFmtI, tM0, tJs, tM1, rNewStrs, tMatch, setAll, lit_to, lit_page, lit_section, lit_gone, lit_exact, lit_open, tSeq, tAsg, tIfS, tRet, tRetN, tDrop, tNext, tNever, tOr, tAnd, tNot, tB, tTest, tCB, tCons, tVar, tC, tNil, tOp, tUn, tIf, tAndV, tOrV, tNotV, tChain, tTup, tLst, tCallR, tMethN, tMakeN, tPropN, tYes, gName, cx_K, cx_P, cx_w, rI0, rI, rEq, rNe, List.getElem?_cons_zero, List.getElem?_cons_succ, List.set_cons_zero, List.set_cons_succ, Option.some.injEq, exists_eq_left', exists_eq_left, V.bl.injEq, V.int.injEq, V.str.injEq, V.ref.injEq, List.cons.injEq, and_true, true_and, exists_and_left, and_assoc, List.append_nil]
      refine fin t H4 (s03.trans s4) (s4.sqt qt) (fun w hw => ?_) (show 2 ≤ 2 from Nat.le_refl _)
      rcases List.mem_cons.mp hw with rfl | hw
      · decide
      · rw [List.mem_singleton.mp hw]
        exact okn.2.hi
  | to t d =>
    obtain ⟨g, u, rfl, qt, hu⟩ := hy3
    obtain ⟨okt, hd⟩ := okn
    have h5 : (dg d).length ≤ 5 := dg_len (by omega)
    refine sif_nx (fun R r => ?_) fun H4 s4 => ?_
    · simp only [tSl, tPart, tNoPart, tCKw, tVals, gStar, gCons, gNil, StX.tStar, tFmtS, tFmtI, tM0, tJs, tM1, rNewStrs, tMatch, setAll, lit_to, lit_page, lit_section, lit_gone, lit_exact, lit_open, tSeq, tAsg, tIfS, tRet, tRetN, tDrop, tNext, tNever, tOr, tAnd, tNot, tB, tTest, tCB, tCons, tVar, tC, tNil, tOp, tUn, tIf, tAndV, tOrV, tNotV, tChain, tTup, tLst, tCallR, tMethN, tMakeN, tPropN, tYes, gName, cx_K, cx_P, cx_w, rI0, rI, rEq, rNe, List.getElem?_cons_zero, List.getElem?_cons_succ, List.set_cons_zero, List.set_cons_succ, Option.some.injEq, exists_eq_left', exists_eq_left, V.bl.injEq, V.int.injEq, V.str.injEq, V.ref.injEq, List.cons.injEq, and_true, true_and, exists_and_left, and_assoc, List.append_nil]
      exact ixT_at (i := 0) qt rfl ⟨rfl, r _ (Same.refl _)⟩
    have qt4 := s4.sqt qt
    have hu4 := hu.mono s4
    have s04 := s03.trans s4
    refine sasg_cut (Src := fun v H5 => v = .str (T (if d = 0 then [] else 32 :: (sFor ++ ([32] ++ dg d)))) ∧ Same H4 H5) (fun R rr => ?_) ?_
    · by_cases h0 : d = 0
      · refine ife_no (fun R r => ?_) fun H5 s5 => ?_
        · simp only [tSl, tPart, tNoPart, tCKw, tVals, gStar, gCons, gNil, StX.tStar, tFmtS, tFmtI, tM0, tJs, tM1, rNewStrs, tMatch, setAll, lit_to, lit_page, lit_section, lit_gone, lit_exact, lit_open, tSeq, tAsg, tIfS, tRet, tRetN, tDrop, tNext, tNever, tOr, tAnd, tNot, tB, tTest, tCB, tCons, tVar, tC, tNil, tOp, tUn, tIf, tAndV, tOrV, tNotV, tChain, tTup, tLst, tCallR, tMethN, tMakeN, tPropN, tYes, gName, cx_K, cx_P, cx_w, rI0, rI, rEq, rNe, List.getElem?_cons_zero, List.getElem?_cons_succ, List.set_cons_zero, List.set_cons_succ, Option.some.injEq, exists_eq_left', exists_eq_left, V.bl.injEq, V.int.injEq, V.str.injEq, V.ref.injEq, List.cons.injEq, and_true, true_and, exists_and_left, and_assoc, List.append_nil]
          refine ixT_at (i := 2) qt4 rfl ⟨_, rfl, ?_⟩
          rw [decide_eq_false (by omega)]
          exact r _ (Same.refl _)
        · simp only [tSl, tPart, tNoPart, tCKw, tVals, gStar, gCons, gNil, StX.tStar, tFmtS, tFmtI, tM0, tJs, tM1, rNewStrs, tMatch, setAll, lit_to, lit_page, lit_section, lit_gone, lit_exact, lit_open, tSeq, tAsg, tIfS, tRet, tRetN, tDrop, tNext, tNever, tOr, tAnd, tNot, tB, tTest, tCB, tCons, tVar, tC, tNil, tOp, tUn, tIf, tAndV, tOrV, tNotV, tChain, tTup, tLst, tCallR, tMethN, tMakeN, tPropN, tYes, gName, cx_K, cx_P, cx_w, rI0, rI, rEq, rNe, List.getElem?_cons_zero, List.getElem?_cons_succ, List.set_cons_zero, List.set_cons_succ, Option.some.injEq, exists_eq_left', exists_eq_left, V.bl.injEq, V.int.injEq, V.str.injEq, V.ref.injEq, List.cons.injEq, and_true, true_and, exists_and_left, and_assoc, List.append_nil]
          exact rr _ _ ⟨by rw [lx_empty, if_pos h0], s5⟩
      · refine ife_yes (fun R r => ?_) fun H5 s5 => ?_
        · simp only [tSl, tPart, tNoPart, tCKw, tVals, gStar, gCons, gNil, StX.tStar, tFmtS, tFmtI, tM0, tJs, tM1, rNewStrs, tMatch, setAll, lit_to, lit_page, lit_section, lit_gone, lit_exact, lit_open, tSeq, tAsg, tIfS, tRet, tRetN, tDrop, tNext, tNever, tOr, tAnd, tNot, tB, tTest, tCB, tCons, tVar, tC, tNil, tOp, tUn, tIf, tAndV, tOrV, tNotV, tChain, tTup, tLst, tCallR, tMethN, tMakeN, tPropN, tYes, gName, cx_K, cx_P, cx_w, rI0, rI, rEq, rNe, List.getElem?_cons_zero, List.getElem?_cons_succ, List.set_cons_zero, List.set_cons_succ, Option.some.injEq, exists_eq_left', exists_eq_left, V.bl.injEq, V.int.injEq, V.str.injEq, V.ref.injEq, List.cons.injEq, and_true, true_and, exists_and_left, and_assoc, List.append_nil]
          refine ixT_at (i := 2) qt4 rfl ⟨_, rfl, ?_⟩
          rw [decide_eq_true (by omega)]
          exact r _ (Same.refl _)
        · simp only [tSl, tPart, tNoPart, tCKw, tVals, gStar, gCons, gNil, StX.tStar, tFmtS, tFmtI, tM0, tJs, tM1, rNewStrs, tMatch, setAll, lit_to, lit_page, lit_section, lit_gone, lit_exact, lit_open, tSeq, tAsg, tIfS, tRet, tRetN, tDrop, tNext, tNever, tOr, tAnd, tNot, tB, tTest, tCB, tCons, tVar, tC, tNil, tOp, tUn, tIf, tAndV, tOrV, tNotV, tChain, tTup, tLst, tCallR, tMethN, tMakeN, tPropN, tYes, gName, cx_K, cx_P, cx_w, rI0, rI, rEq, rNe, List.getElem?_cons_zero, List.getElem?_cons_succ, List.set_cons_zero, List.set_cons_succ, Option.some.injEq, exists_eq_left', exists_eq_left, V.bl.injEq, V.int.injEq, V.str.injEq, V.ref.injEq, List.cons.injEq, and_true, true_and, exists_and_left, and_assoc, List.append_nil]
          refine ixT_at (i := 2) (s5.sqt qt4) rfl ⟨_, rfl, log_lt (by omega), ?_, rr _ _ ⟨?_, s5⟩⟩
          · rw [ly_for, num_T, T_len, T_len]
            exact Nat.le_trans (show 5 + (dg d).length ≤ 100 by omega) (by decide)
          · rw [ly_for, num_T, T_cat, if_neg h0]
            rfl
    rintro _ H5 ⟨rfl, s5⟩
    have h6 := tAd_len okt
    have hl7 : (if d = 0 then [] else 32 :: (sFor ++ ([32] ++ dg d))).length ≤ 20 := by
      split
      · exact Nat.zero_le _
      · show (dg d).length + 1 + 1 + 1 + 1 + 1 ≤ 20
        omega
    have eR : tR ⟨ex, a, .to t d⟩ = tPl ex a ++ (32 :: (sTo ++ [32]) ++ (tAd t ++ (if d = 0 then [] else 32 :: (sFor ++ ([32] ++ dg d))))) := by
      show tPl ex a ++ ([32] ++ tAn (.to t d)) = _
      congr 1
      by_cases h0 : d = 0
      · rw [if_pos h0, tAn_join, show wAn (.to t d) = [sTo, tAd t] from if_pos h0, List.append_nil]
        rfl
      · rw [if_neg h0, tAn_join, show wAn (.to t d) = [sTo, tAd t, sFor, dg d] from if_neg h0]
        rfl
    simp only [tSl, tPart, tNoPart, tCKw, tVals, gStar, gCons, gNil, StX.tStar, tFmtS, tFmtI, tM0, tJs, tM1, rNewStrs, tMatch, setAll, lit_to, lit_page, lit_section, lit_gone, lit_exact, lit_open, tSeq, tAsg, tIfS, tRet, tRetN, tDrop, tNext, tNever, tOr, tAnd, tNot, tB, tTest, tCB, tCons, tVar, tC, tNil, tOp, tUn, tIf, tAndV, tOrV, tNotV, tChain, tTup, tLst, tCallR, tMethN, tMakeN, tPropN, tYes, gName, cx_K, cx_P, cx_w, rI0, rI, rEq, rNe, List.getElem?_cons_zero, List.getElem?_cons_succ, List.set_cons_zero, List.set_cons_succ, Option.some.injEq, exists_eq_left', exists_eq_left, V.bl.injEq, V.int.injEq, V.str.injEq, V.ref.injEq, List.cons.injEq, and_true, true_and, exists_and_left, and_assoc, List.append_nil]
    rw [ly_to]
    refine ⟨by rw [T_len, T_len]; exact Nat.le_trans (show (tPl ex a).length + 4 ≤ 100 by omega) (by decide), ixT_at (i := 1) (s5.sqt qt4) rfl ⟨_, rfl, t, hu4.mono s5, okt, fun H6 s6 => ⟨_, rfl, ?_, ?_, ?_⟩⟩⟩
    · rw [T_cat, T_len, T_len, List.length_append]
      exact Nat.le_trans (show (tPl ex a).length + 4 + (tAd t).length ≤ 200 by omega) (by decide)
    · rw [T_cat, T_cat, T_len, T_len, List.length_append, List.length_append]
      exact Nat.le_trans (show (tPl ex a).length + 4 + (tAd t).length + _ ≤ 300 by omega) (by decide)
    · rw [T_cat, T_cat, T_cat, List.append_assoc, List.append_assoc, ← eR]
      exact k H6 ((s04.trans s5).trans s6)
abbrev N_law_event_text : List Str := ["_law_event", "_law_head"]
theorem sc_law_event_text : FnScope N_law_event_text ["_law_event"] (defScope s_law_event_text) := ⟨rfl, rfl, rfl, by decide +kernel, rfl, by decide +kernel, by decide +kernel⟩
theorem st_law_event_text (x0 : V) : L2.start N_law_event_text [x0] = [some x0, none] := rfl
theorem ok_law_event_text (L : Lw K mg) : FN P w K mg base 2 a_law_event_text (sp1 (p_event_text (K := K))) := by
  obtain ⟨fd, F⟩ := L.law_event_text
  refine fn_any F sc_law_event_text (len1 rfl) (fun _ _ _ _ _ _ us hl => match us, hl with | [_], _ => rfl) fun cdv A outer s H vs Q E hr h => ?_
  obtain ⟨_, rfl, e, he, ok, k⟩ := h
  have nd := sc_law_event_text.nd
  refine ⟨_, (pss_cons (ps_set (i := 1) nd rfl (Or.inl rfl) (pe_join pe_str (pe_lst (pa_cons (pe_callTy call_str_int (by rfl) L.z_str (by decide +kernel) (pa_cons (pe_ix (ix_tupK (K := K) rfl) (pv 0) pe_int (fun _ _ => rfl)) pa_nil)) (pa_cons (pe_ix (ix_tupK (K := K) rfl) (pv 0) pe_int (fun _ _ => rfl)) (pa_cons (pe_ix (ix_tupK (K := K) rfl) (pv 0) pe_int (fun _ _ => rfl)) (pa_cons (pe_ix (ix_tupK (K := K) rfl) (pv 0) pe_int (fun _ _ => rfl)) pa_nil))))))) (pss_cons (ps_if (pt_cmpR op_eq (pe_ix (ix_tupK (K := K) rfl) (pv 0) pe_int (fun _ _ => rfl)) pe_str (nomark _)) (pss_one (ps_ret (pv 1))) pss_nil) (pss_cons (ps_if (pt_cmpR op_eq (pe_ix (ix_tupK (K := K) rfl) (pv 0) pe_int (fun _ _ => rfl)) pe_str (nomark _)) (pss_one (ps_ret (pe_op op_add_str (pe_op op_add_str (pv 1) pe_str) (pe_ix (ix_tupK (K := K) rfl) (pv 0) pe_int (fun _ _ => rfl))))) pss_nil) (pss_one (ps_ret (pe_op op_add_str (pe_op op_add_str (pv 1) (pe_dget (hu_of hr) (pe_disp (pps_cons pe_str pe_str (pps_cons pe_str pe_str (pps_cons pe_str pe_str pps_nil))) (by rfl) (by rfl) (fun z => by cases z) (by decide)) (pe_ix (ix_tupK (K := K) rfl) (pv 0) pe_int (fun _ _ => rfl)) (fun _ _ => rfl))) (pe_g (ok_law_address_text L) (hr.mono (by decide)) rfl L.g_law_address_text L.law_address_text.kp (pa_cons (pe_ix (ix_tupK (K := K) rfl) (pv 0) pe_int (fun _ _ => rfl)) pa_nil)))))))), ?_⟩
  simp only [tSl, tPart, tNoPart, tCKw, tVals, gStar, gCons, gNil, StX.tStar, tFmtS, tFmtI, tM0, tJs, tM1, rNewStrs, tMatch, setAll, lit_to, lit_page, lit_section, lit_gone, lit_exact, lit_open, tAsg, tRet, tRetN, tDrop, tNext, tNever, tNot, tB, tTest, tCB, tCons, tVar, tC, tNil, tOp, tUn, tAndV, tOrV, tNotV, tChain, tTup, tLst, tCallR, tMethN, tMakeN, tPropN, tYes, gName, cx_K, cx_P, cx_w, rI0, rI, rEq, rNe, List.getElem?_cons_zero, List.getElem?_cons_succ, List.set_cons_zero, List.set_cons_succ, Option.some.injEq, exists_eq_left', exists_eq_left, V.bl.injEq, V.int.injEq, V.str.injEq, V.ref.injEq, List.cons.injEq, and_true, true_and, exists_and_left, and_assoc, List.append_nil, st_law_event_text]
  cases e with
  | take d so n =>
    obtain ⟨t, rfl, q⟩ := he
    obtain ⟨hd, hn⟩ := ok
    have h7 := dg_len7 (n := d) (by omega)
    have hs := sortN_len so
    have h1 := hn.hi
    have hv : (sTake).length ≤ 5 := by decide
    have hh : (TL.joinL [32] [dg d, sTake, sortN so, n]).length ≤ 60 := by
      show (dg d ++ ([32] ++ (sTake ++ ([32] ++ (sortN so ++ ([32] ++ n)))))).length ≤ 60
      simp only [List.length_append, List.length_cons, List.length_nil]
      omega
    refine sasg_cut (Src := fun v H1 => v = .str (T (TL.joinL [32] [dg d, sTake, sortN so, n])) ∧ Same H H1) (fun R rr => ?_) ?_
    · simp only [tSl, tPart, tNoPart, tCKw, tVals, gStar, gCons, gNil, StX.tStar, tFmtS, tFmtI, tM0, tJs, tM1, rNewStrs, tMatch, setAll, lit_to, lit_page, lit_section, lit_gone, lit_exact, lit_open, tSeq, tAsg, tIfS, tRet, tRetN, tDrop, tNext, tNever, tOr, tAnd, tNot, tB, tTest, tCB, tCons, tVar, tC, tNil, tOp, tUn, tIf, tAndV, tOrV, tNotV, tChain, tTup, tLst, tCallR, tMethN, tMakeN, tPropN, tYes, gName, cx_K, cx_P, cx_w, rI0, rI, rEq, rNe, List.getElem?_cons_zero, List.getElem?_cons_succ, List.set_cons_zero, List.set_cons_succ, Option.some.injEq, exists_eq_left', exists_eq_left, V.bl.injEq, V.int.injEq, V.str.injEq, V.ref.injEq, List.cons.injEq, and_true, true_and, exists_and_left, and_assoc, List.append_nil]
      refine ⟨⟨_, rfl⟩, ixT_at (i := 0) q rfl ⟨_, rfl, log_lt (by omega), ixT_at (i := 1) q rfl (ixT_at (i := 2) q rfl (ixT_at (i := 3) q rfl ⟨szl rfl, fun l hl => ⟨[dg d, sTake, sortN so, n].map T, .inl (SqL.of ?_), ?_, rr _ _ ⟨?_, (Same.refl _).nw hl⟩⟩⟩))⟩⟩
      · rw [num_T]
        exact upd_same
      · rw [lx_sp]
        show (T (dg d)).length + ((T (sTake)).length + ((T (sortN so)).length + ((T n).length + 0))) + 4 * (T [32]).length ≤ 16777216
        rw [T_len, T_len, T_len, T_len, T_len]
        show _ + 4 * 1 ≤ _
        omega
      · rw [lx_sp]
        exact congrArg V.str (SX.join_S [32] _)
    rintro _ H1 ⟨rfl, s1⟩
    have q1 := s1.sqt q
    refine sif_yes (fun R r => ?_) fun H2 s2 => ?_
    · simp only [tSl, tPart, tNoPart, tCKw, tVals, gStar, gCons, gNil, StX.tStar, tFmtS, tFmtI, tM0, tJs, tM1, rNewStrs, tMatch, setAll, lit_to, lit_page, lit_section, lit_gone, lit_exact, lit_open, tSeq, tAsg, tIfS, tRet, tRetN, tDrop, tNext, tNever, tOr, tAnd, tNot, tB, tTest, tCB, tCons, tVar, tC, tNil, tOp, tUn, tIf, tAndV, tOrV, tNotV, tChain, tTup, tLst, tCallR, tMethN, tMakeN, tPropN, tYes, gName, cx_K, cx_P, cx_w, rI0, rI, rEq, rNe, List.getElem?_cons_zero, List.getElem?_cons_succ, List.set_cons_zero, List.set_cons_succ, Option.some.injEq, exists_eq_left', exists_eq_left, V.bl.injEq, V.int.injEq, V.str.injEq, V.ref.injEq, List.cons.injEq, and_true, true_and, exists_and_left, and_assoc, List.append_nil]
      rw [lw lx_take]
      refine ixT_at (i := 1) q1 rfl ⟨rfl, ?_⟩
      rw [dec_W, decide_eq_true rfl]
      exact r _ (Same.refl _)
    have q2 := s2.sqt q1
    simp only [tSl, tPart, tNoPart, tCKw, tVals, gStar, gCons, gNil, StX.tStar, tFmtS, tFmtI, tM0, tJs, tM1, rNewStrs, tMatch, setAll, lit_to, lit_page, lit_section, lit_gone, lit_exact, lit_open, tSeq, tAsg, tIfS, tRet, tRetN, tDrop, tNext, tNever, tOr, tAnd, tNot, tB, tTest, tCB, tCons, tVar, tC, tNil, tOp, tUn, tIf, tAndV, tOrV, tNotV, tChain, tTup, tLst, tCallR, tMethN, tMakeN, tPropN, tYes, gName, cx_K, cx_P, cx_w, rI0, rI, rEq, rNe, List.getElem?_cons_zero, List.getElem?_cons_succ, List.set_cons_zero, List.set_cons_succ, Option.some.injEq, exists_eq_left', exists_eq_left, V.bl.injEq, V.int.injEq, V.str.injEq, V.ref.injEq, List.cons.injEq, and_true, true_and, exists_and_left, and_assoc, List.append_nil]
    exact k _ (s1.trans s2)
  | merge d so n o =>
    obtain ⟨t, rfl, q⟩ := he
    obtain ⟨hd, hn, ho⟩ := ok
    have h7 := dg_len7 (n := d) (by omega)
    have hs := sortN_len so
    have h1 := hn.hi
    have hv : (sMerge).length ≤ 5 := by decide
    have hh : (TL.joinL [32] [dg d, sMerge, sortN so, n]).length ≤ 60 := by
      show (dg d ++ ([32] ++ (sMerge ++ ([32] ++ (sortN so ++ ([32] ++ n)))))).length ≤ 60
      simp only [List.length_append, List.length_cons, List.length_nil]
      omega
    refine sasg_cut (Src := fun v H1 => v = .str (T (TL.joinL [32] [dg d, sMerge, sortN so, n])) ∧ Same H H1) (fun R rr => ?_) ?_
    · simp only [tSl, tPart, tNoPart, tCKw, tVals, gStar, gCons, gNil, StX.tStar, tFmtS, tFmtI, tM0, tJs, tM1, rNewStrs, tMatch, setAll, lit_to, lit_page, lit_section, lit_gone, lit_exact, lit_open, tSeq, tAsg, tIfS, tRet, tRetN, tDrop, tNext, tNever, tOr, tAnd, tNot, tB, tTest, tCB, tCons, tVar, tC, tNil, tOp, tUn, tIf, tAndV, tOrV, tNotV, tChain, tTup, tLst, tCallR, tMethN, tMakeN, tPropN, tYes, gName, cx_K, cx_P, cx_w, rI0, rI, rEq, rNe, List.getElem?_cons_zero, List.getElem?_cons_succ, List.set_cons_zero, List.set_cons_succ, Option.some.injEq, exists_eq_left', exists_eq_left, V.bl.injEq, V.int.injEq, V.str.injEq, V.ref.injEq, List.cons.injEq, and_true, true_and, exists_and_left, and_assoc, List.append_nil]
      refine ⟨⟨_, rfl⟩, ixT_at (i := 0) q rfl ⟨_, rfl, log_lt (by omega), ixT_at (i := 1) q rfl (ixT_at (i := 2) q rfl (ixT_at (i := 3) q rfl ⟨szl rfl, fun l hl => ⟨[dg d, sMerge, sortN so, n].map T, .inl (SqL.of ?_), ?_, rr _ _ ⟨?_, (Same.refl _).nw hl⟩⟩⟩))⟩⟩
      · rw [num_T]
        exact upd_same
      · rw [lx_sp]
        show (T (dg d)).length + ((T (sMerge)).length + ((T (sortN so)).length + ((T n).length + 0))) + 4 * (T [32]).length ≤ 16777216
        rw [T_len, T_len, T_len, T_len, T_len]
        show _ + 4 * 1 ≤ _
        omega
      · rw [lx_sp]
        exact congrArg V.str (SX.join_S [32] _)
    rintro _ H1 ⟨rfl, s1⟩
    have q1 := s1.sqt q
    refine sif_nx (fun R r => ?_) fun H2 s2 => ?_
    · simp only [tSl, tPart, tNoPart, tCKw, tVals, gStar, gCons, gNil, StX.tStar, tFmtS, tFmtI, tM0, tJs, tM1, rNewStrs, tMatch, setAll, lit_to, lit_page, lit_section, lit_gone, lit_exact, lit_open, tSeq, tAsg, tIfS, tRet, tRetN, tDrop, tNext, tNever, tOr, tAnd, tNot, tB, tTest, tCB, tCons, tVar, tC, tNil, tOp, tUn, tIf, tAndV, tOrV, tNotV, tChain, tTup, tLst, tCallR, tMethN, tMakeN, tPropN, tYes, gName, cx_K, cx_P, cx_w, rI0, rI, rEq, rNe, List.getElem?_cons_zero, List.getElem?_cons_succ, List.set_cons_zero, List.set_cons_succ, Option.some.injEq, exists_eq_left', exists_eq_left, V.bl.injEq, V.int.injEq, V.str.injEq, V.ref.injEq, List.cons.injEq, and_true, true_and, exists_and_left, and_assoc, List.append_nil]
      rw [lw lx_take]
      refine ixT_at (i := 1) q1 rfl ⟨rfl, ?_⟩
      rw [dec_W, decide_eq_false (by decide)]
      exact r _ (Same.refl _)
    have q2 := s2.sqt q1
    refine sif_yes (fun R r => ?_) fun H3 s3 => ?_
    · simp only [tSl, tPart, tNoPart, tCKw, tVals, gStar, gCons, gNil, StX.tStar, tFmtS, tFmtI, tM0, tJs, tM1, rNewStrs, tMatch, setAll, lit_to, lit_page, lit_section, lit_gone, lit_exact, lit_open, tSeq, tAsg, tIfS, tRet, tRetN, tDrop, tNext, tNever, tOr, tAnd, tNot, tB, tTest, tCB, tCons, tVar, tC, tNil, tOp, tUn, tIf, tAndV, tOrV, tNotV, tChain, tTup, tLst, tCallR, tMethN, tMakeN, tPropN, tYes, gName, cx_K, cx_P, cx_w, rI0, rI, rEq, rNe, List.getElem?_cons_zero, List.getElem?_cons_succ, List.set_cons_zero, List.set_cons_succ, Option.some.injEq, exists_eq_left', exists_eq_left, V.bl.injEq, V.int.injEq, V.str.injEq, V.ref.injEq, List.cons.injEq, and_true, true_and, exists_and_left, and_assoc, List.append_nil]
      rw [lw lx_merge]
      refine ixT_at (i := 1) q2 rfl ⟨rfl, ?_⟩
      rw [dec_W, decide_eq_true rfl]
      exact r _ (Same.refl _)
    have q3 := s3.sqt q2
    simp only [tSl, tPart, tNoPart, tCKw, tVals, gStar, gCons, gNil, StX.tStar, tFmtS, tFmtI, tM0, tJs, tM1, rNewStrs, tMatch, setAll, lit_to, lit_page, lit_section, lit_gone, lit_exact, lit_open, tSeq, tAsg, tIfS, tRet, tRetN, tDrop, tNext, tNever, tOr, tAnd, tNot, tB, tTest, tCB, tCons, tVar, tC, tNil, tOp, tUn, tIf, tAndV, tOrV, tNotV, tChain, tTup, tLst, tCallR, tMethN, tMakeN, tPropN, tYes, gName, cx_K, cx_P, cx_w, rI0, rI, rEq, rNe, List.getElem?_cons_zero, List.getElem?_cons_succ, List.set_cons_zero, List.set_cons_succ, Option.some.injEq, exists_eq_left', exists_eq_left, V.bl.injEq, V.int.injEq, V.str.injEq, V.ref.injEq, List.cons.injEq, and_true, true_and, exists_and_left, and_assoc, List.append_nil]
    have h2 := ho.hi
    rw [ly_into]
    refine ⟨by rw [T_len, T_len]; exact Nat.le_trans (show _ + 6 ≤ 100 by omega) (by decide), ixT_at (i := 4) q3 rfl ⟨_, rfl, ?_, ?_⟩⟩
    · rw [T_cat, T_len, T_len, List.length_append]
      exact Nat.le_trans (show _ + 6 + o.length ≤ 200 by omega) (by decide)
    · rw [T_cat, T_cat]
      have kk := k H3 ((s1.trans s2).trans s3)
      simp only [tEv, wEv, TL.joinL, List.append_assoc, List.cons_append, List.nil_append] at kk ⊢
      exact kk
  | pl vb d so n p =>
    obtain ⟨t, u, rfl, q, hu⟩ := he
    obtain ⟨hd, hn, hp⟩ := ok
    have h7 := dg_len7 (n := d) (by omega)
    have hs := sortN_len so
    have h1 := hn.hi
    have hv : (vb.w).length ≤ 5 := Vb_len vb
    have hh : (TL.joinL [32] [dg d, vb.w, sortN so, n]).length ≤ 60 := by
      show (dg d ++ ([32] ++ (vb.w ++ ([32] ++ (sortN so ++ ([32] ++ n)))))).length ≤ 60
      simp only [List.length_append, List.length_cons, List.length_nil]
      omega
    refine sasg_cut (Src := fun v H1 => v = .str (T (TL.joinL [32] [dg d, vb.w, sortN so, n])) ∧ Same H H1) (fun R rr => ?_) ?_
    · simp only [tSl, tPart, tNoPart, tCKw, tVals, gStar, gCons, gNil, StX.tStar, tFmtS, tFmtI, tM0, tJs, tM1, rNewStrs, tMatch, setAll, lit_to, lit_page, lit_section, lit_gone, lit_exact, lit_open, tSeq, tAsg, tIfS, tRet, tRetN, tDrop, tNext, tNever, tOr, tAnd, tNot, tB, tTest, tCB, tCons, tVar, tC, tNil, tOp, tUn, tIf, tAndV, tOrV, tNotV, tChain, tTup, tLst, tCallR, tMethN, tMakeN, tPropN, tYes, gName, cx_K, cx_P, cx_w, rI0, rI, rEq, rNe, List.getElem?_cons_zero, List.getElem?_cons_succ, List.set_cons_zero, List.set_cons_succ, Option.some.injEq, exists_eq_left', exists_eq_left, V.bl.injEq, V.int.injEq, V.str.injEq, V.ref.injEq, List.cons.injEq, and_true, true_and, exists_and_left, and_assoc, List.append_nil]
      refine ⟨⟨_, rfl⟩, ixT_at (i := 0) q rfl ⟨_, rfl, log_lt (by omega), ixT_at (i := 1) q rfl (ixT_at (i := 2) q rfl (ixT_at (i := 3) q rfl ⟨szl rfl, fun l hl => ⟨[dg d, vb.w, sortN so, n].map T, .inl (SqL.of ?_), ?_, rr _ _ ⟨?_, (Same.refl _).nw hl⟩⟩⟩))⟩⟩
      · rw [num_T]
        exact upd_same
      · rw [lx_sp]
        show (T (dg d)).length + ((T (vb.w)).length + ((T (sortN so)).length + ((T n).length + 0))) + 4 * (T [32]).length ≤ 16777216
        rw [T_len, T_len, T_len, T_len, T_len]
        show _ + 4 * 1 ≤ _
        omega
      · rw [lx_sp]
        exact congrArg V.str (SX.join_S [32] _)
    rintro _ H1 ⟨rfl, s1⟩
    have q1 := s1.sqt q
    refine sif_nx (fun R r => ?_) fun H2 s2 => ?_
    · simp only [tSl, tPart, tNoPart, tCKw, tVals, gStar, gCons, gNil, StX.tStar, tFmtS, tFmtI, tM0, tJs, tM1, rNewStrs, tMatch, setAll, lit_to, lit_page, lit_section, lit_gone, lit_exact, lit_open, tSeq, tAsg, tIfS, tRet, tRetN, tDrop, tNext, tNever, tOr, tAnd, tNot, tB, tTest, tCB, tCons, tVar, tC, tNil, tOp, tUn, tIf, tAndV, tOrV, tNotV, tChain, tTup, tLst, tCallR, tMethN, tMakeN, tPropN, tYes, gName, cx_K, cx_P, cx_w, rI0, rI, rEq, rNe, List.getElem?_cons_zero, List.getElem?_cons_succ, List.set_cons_zero, List.set_cons_succ, Option.some.injEq, exists_eq_left', exists_eq_left, V.bl.injEq, V.int.injEq, V.str.injEq, V.ref.injEq, List.cons.injEq, and_true, true_and, exists_and_left, and_assoc, List.append_nil]
      rw [lw lx_take]
      refine ixT_at (i := 1) q1 rfl ⟨rfl, ?_⟩
      rw [dec_W, decide_eq_false (by cases vb <;> decide)]
      exact r _ (Same.refl _)
    have q2 := s2.sqt q1
    refine sif_nx (fun R r => ?_) fun H3 s3 => ?_
    · simp only [tSl, tPart, tNoPart, tCKw, tVals, gStar, gCons, gNil, StX.tStar, tFmtS, tFmtI, tM0, tJs, tM1, rNewStrs, tMatch, setAll, lit_to, lit_page, lit_section, lit_gone, lit_exact, lit_open, tSeq, tAsg, tIfS, tRet, tRetN, tDrop, tNext, tNever, tOr, tAnd, tNot, tB, tTest, tCB, tCons, tVar, tC, tNil, tOp, tUn, tIf, tAndV, tOrV, tNotV, tChain, tTup, tLst, tCallR, tMethN, tMakeN, tPropN, tYes, gName, cx_K, cx_P, cx_w, rI0, rI, rEq, rNe, List.getElem?_cons_zero, List.getElem?_cons_succ, List.set_cons_zero, List.set_cons_succ, Option.some.injEq, exists_eq_left', exists_eq_left, V.bl.injEq, V.int.injEq, V.str.injEq, V.ref.injEq, List.cons.injEq, and_true, true_and, exists_and_left, and_assoc, List.append_nil]
      rw [lw lx_merge]
      refine ixT_at (i := 1) q2 rfl ⟨rfl, ?_⟩
      rw [dec_W, decide_eq_false (by cases vb <;> decide)]
      exact r _ (Same.refl _)
    have q3 := s3.sqt q2
    simp only [tSl, tPart, tNoPart, tCKw, tVals, gStar, gCons, gNil, StX.tStar, tFmtS, tFmtI, tM0, tJs, tM1, rNewStrs, tMatch, setAll, lit_to, lit_page, lit_section, lit_gone, lit_exact, lit_open, tSeq, tAsg, tIfS, tRet, tRetN, tDrop, tNext, tNever, tOr, tAnd, tNot, tB, tTest, tCB, tCons, tVar, tC, tNil, tOp, tUn, tIf, tAndV, tOrV, tNotV, tChain, tTup, tLst, tCallR, tMethN, tMakeN, tPropN, tYes, gName, cx_K, cx_P, cx_w, rI0, rI, rEq, rNe, List.getElem?_cons_zero, List.getElem?_cons_succ, List.set_cons_zero, List.set_cons_succ, Option.some.injEq, exists_eq_left', exists_eq_left, V.bl.injEq, V.int.injEq, V.str.injEq, V.ref.injEq, List.cons.injEq, and_true, true_and, exists_and_left, and_assoc, List.append_nil, tDGet, tDisp, tPairs]
    rw [lx_put, lx_bring, lx_move, ly_at, ly_to]
    intro l hl
    refine ⟨upd_same, kvA, rfl, show 3 ≤ 15 by decide, ?_⟩
    rw [kvA_merge]
    have s4 := ((Same.refl H3).nw (o := .dK []) hl).mt (o := .dK kvA) hl
    have el := upd_same (H := upd H3 l (.dK [])) (a := l) (o := .dK kvA)
    generalize upd (upd H3 l (.dK [])) l (.dK kvA) = H4 at s4 el
    have q4 := s4.sqt q3
    have h2 := tAd_len hp
    have hpr : (prep vb).length ≤ 2 := by cases vb <;> decide
    have hg := DGet.k (k := kW vb.w) el
    rw [kvA_get] at hg
    refine ixT_at (i := 1) q4 rfl ⟨_, hg, _, rfl, ?_, ixT_at (i := 4) q4 rfl ⟨_, rfl, p, hu.kt (((s1.trans s2).trans s3).trans s4).kt, hp, fun H5 s5 => ⟨_, rfl, ?_, ?_⟩⟩⟩
    · rw [T_len, T_len]
      exact Nat.le_trans (show _ + ((prep vb ++ [32]).length + 1) ≤ 100 by rw [List.length_append]; show _ + ((prep vb).length + 1 + 1) ≤ 100; omega) (by decide)
    · rw [T_cat, T_len, T_len, List.length_append]
      exact Nat.le_trans (show _ + ((prep vb ++ [32]).length + 1) + _ ≤ 200 by rw [List.length_append]; show _ + ((prep vb).length + 1 + 1) + _ ≤ 200; omega) (by decide)
    · rw [T_cat, T_cat]
      have kk := k H5 ((((s1.trans s2).trans s3).trans s4).trans s5)
      simp only [tEv, wEv, TL.joinL, List.append_assoc, List.cons_append, List.nil_append] at kk ⊢
      exact kk
end
end K88
set_option maxHeartbeats 4000000
/-! The text of a table, by the law. -/
namespace K88
open PySem PySem.Spec PyProof.Rows L2 LamX
abbrev lamE : Option Expr := match defBody s_law_table_text with | .Assign _ (.Call _ _ (k :: _) _) _ :: _ => some k.value | _ => none
abbrev lamPar : Arguments := match lamE with | some (.Lambda a _ _ _) => a | _ => defArgs s_law_table_text
abbrev lamBody : Expr := match lamE with | some (.Lambda _ b _ _) => b | _ => .Constant .none 0 default
abbrev lamScope : Scope := match lamE with | some (.Lambda _ _ c _) => c | _ => defScope s_law_table_text
abbrev lamQ : Str := ("_law_table_text" : Str) ++ ".<locals>." ++ "<lambda>"
theorem lamS : FnScope ["_law_rule_here"] ["_law_rule_here"] lamScope := ⟨rfl, rfl, rfl, by decide +kernel, rfl, by decide +kernel, by decide +kernel⟩
/-- the key of the law -/
def kL (r : Ru) : PyData := .tuple [.int (r.at_.length : Int), dA r.at_, dW (sortOf r.ex)]
def p_lam (K : PySem.W.Frag) : V → Hp → VK → Prop := fun v H Q => ∃ r, RuAt K H v r ∧ OkR r ∧ ∀ v' H', Same H H' → Dp K H' v' (kL r) → Q v' H'
section
variable {P : Program} {w : World} {K : PySem.W.Frag} {mg : Str → Option Value} {base : Heap}
theorem lam_body (L : Lw K mg) (f c' : Addr) (A : Around) (outer : List Env) (s : Shared) (H : Hp) (v : V) (Q : VK) (hr : Room 0 (A.deeper (envOfC lamQ lamScope s.heap.objs.size f (.ref c')))) (h : p_lam K v H Q) :
    ∃ t, PE (cxOf CX0 P w K mg base ["_law_rule_here"] lamQ lamScope f (.ref c') A outer s H E0) lamBody t ∧ t (L2.start ["_law_rule_here"] [v]) H Q := by
  obtain ⟨r, hv, ok, k⟩ := h
  have nd := lamS.nd
  refine ⟨_, (pe_tup (pa_cons (pe_callB call_len (by rfl) L.z_len (by decide +kernel) (pa_cons (pe_ix (ix_tupK (K := K) rfl) (pv 0) pe_int (fun _ _ => rfl)) pa_nil)) (pa_cons (pe_ix (ix_tupK (K := K) rfl) (pv 0) pe_int (fun _ _ => rfl)) (pa_cons (pe_ix (ix_tupK (K := K) rfl) (pv 0) pe_int (fun _ _ => rfl)) pa_nil)))), ?_⟩
  show tTup _ [some v] H Q
  simp only [tSl, tPart, tNoPart, tCKw, tVals, gStar, gCons, gNil, StX.tStar, tFmtS, tFmtI, tM0, tJs, tM1, rNewStrs, tMatch, setAll, lit_to, lit_page, lit_section, lit_gone, lit_exact, lit_open, tSeq, tAsg, tIfS, tRet, tRetN, tDrop, tNext, tNever, tOr, tAnd, tNot, tB, tTest, tCB, tCons, tVar, tC, tNil, tOp, tUn, tIf, tAndV, tOrV, tNotV, tChain, tTup, tLst, tCallR, tMethN, tMakeN, tPropN, tYes, gName, cx_K, cx_P, cx_w, rI0, rI, rEq, rNe, List.getElem?_cons_zero, List.getElem?_cons_succ, List.set_cons_zero, List.set_cons_succ, Option.some.injEq, exists_eq_left', exists_eq_left, V.bl.injEq, V.int.injEq, V.str.injEq, V.ref.injEq, List.cons.injEq, and_true, true_and, exists_and_left, and_assoc, List.append_nil]
  obtain ⟨p, x, y, rfl, q, hx, hy⟩ := hv
  obtain ⟨pa, rfl, qa⟩ := id hx
  refine ixT_at (i := 1) q rfl ⟨r.at_.length, .inr (⟨_, qa, by rw [List.length_map]⟩), ixT_at (i := 1) q rfl (ixT_at (i := 0) q rfl ⟨szl rfl, fun l hl => ?_⟩)⟩
  have s1 := (Same.refl H).nw (o := .tup [.int (r.at_.length : Int), .ref pa, vW (sortOf r.ex)]) hl
  exact k _ _ s1 (.tup (SqT.of upd_same) (.cons (.int _) (.cons (hx.mono s1).dp (.cons (.str _) .nil))))
/-! ### the two keys sort alike -/
open PySem.W (dataLt dataLe keyToks keyToksAll) in
theorem toks_ws (x y x' y' : List (Int ⊕ List Nat)) (h : PyProof.Rows.lexLt PyProof.Rows.itemOrd x y = PyProof.Rows.lexLt PyProof.Rows.itemOrd x' y') : ∀ a b : Ad, a.length = b.length →
    PyProof.Rows.lexLt PyProof.Rows.itemOrd (keyToksAll (a.map dW) ++ x) (keyToksAll (b.map dW) ++ y) = PyProof.Rows.lexLt PyProof.Rows.itemOrd (keyToksAll (a.map dW) ++ x') (keyToksAll (b.map dW) ++ y')
  | [], [], _ => by
    show PyProof.Rows.lexLt PyProof.Rows.itemOrd (.inl 0 :: x) (.inl 0 :: y) = PyProof.Rows.lexLt PyProof.Rows.itemOrd (.inl 0 :: x') (.inl 0 :: y')
    rw [PyProof.Rows.lex_self (O := PyProof.Rows.itemOrd), PyProof.Rows.lex_self (O := PyProof.Rows.itemOrd)]
    exact h
  | [], _ :: _, e => nomatch e
  | _ :: _, [], e => nomatch e
  | u :: a, v :: b, e => by
    have ih := toks_ws x y x' y' h a b (by simpa using e)
    show PyProof.Rows.lexLt PyProof.Rows.itemOrd (.inl 1 :: .inr (T u).cps.toList :: (keyToksAll (a.map dW) ++ x)) (.inl 1 :: .inr (T v).cps.toList :: (keyToksAll (b.map dW) ++ y)) =
      PyProof.Rows.lexLt PyProof.Rows.itemOrd (.inl 1 :: .inr (T u).cps.toList :: (keyToksAll (a.map dW) ++ x')) (.inl 1 :: .inr (T v).cps.toList :: (keyToksAll (b.map dW) ++ y'))
    rw [PyProof.Rows.lex_self (O := PyProof.Rows.itemOrd), PyProof.Rows.lex_self (O := PyProof.Rows.itemOrd)]
    by_cases n : (Sum.inr (T u).cps.toList : Int ⊕ List Nat) = .inr (T v).cps.toList
    · rw [n, PyProof.Rows.lex_self (O := PyProof.Rows.itemOrd), PyProof.Rows.lex_self (O := PyProof.Rows.itemOrd)]
      exact ih
    · rw [PyProof.Rows.lex_diff (O := PyProof.Rows.itemOrd) n, PyProof.Rows.lex_diff (O := PyProof.Rows.itemOrd) n]
open PySem.W (dataLt dataLe keyToks keyToksAll) in
theorem lt_LR (a b : Ru) : dataLt (kL a) (kL b) = dataLt (kR a) (kR b) := by
  show PyProof.Rows.lexLt PyProof.Rows.itemOrd (.inl 1 :: .inl (a.at_.length : Int) :: .inl 1 :: (keyToksAll (a.at_.map dW) ++ [.inl 1, .inr (T (sortOf a.ex)).cps.toList, .inl 0])) (.inl 1 :: .inl (b.at_.length : Int) :: .inl 1 :: (keyToksAll (b.at_.map dW) ++ [.inl 1, .inr (T (sortOf b.ex)).cps.toList, .inl 0])) = _
  have e : ∀ r : Ru, keyToks (kR r) = .inl 1 :: .inl 1 :: .inl (r.at_.length : Int) :: .inl 1 :: (keyToksAll (r.at_.map dW) ++ [.inl 0, .inl 1, .inr (T (sortOf r.ex)).cps.toList, .inl 0]) := fun r => by
    show Sum.inl 1 :: ((Sum.inl 1 :: .inl (r.at_.length : Int) :: .inl 1 :: (keyToksAll (r.at_.map dW) ++ [.inl 0])) ++ [.inl 1, .inr (T (sortOf r.ex)).cps.toList, .inl 0]) = _
    rw [List.cons_append, List.cons_append, List.cons_append, List.append_assoc]
    rfl
  show _ = PyProof.Rows.lexLt PyProof.Rows.itemOrd (keyToks (kR a)) (keyToks (kR b))
  rw [e, e, PyProof.Rows.lex_self (O := PyProof.Rows.itemOrd), PyProof.Rows.lex_self (O := PyProof.Rows.itemOrd), PyProof.Rows.lex_self (O := PyProof.Rows.itemOrd)]
  by_cases n : a.at_.length = b.at_.length
  · rw [n, PyProof.Rows.lex_self (O := PyProof.Rows.itemOrd), PyProof.Rows.lex_self (O := PyProof.Rows.itemOrd), PyProof.Rows.lex_self (O := PyProof.Rows.itemOrd), PyProof.Rows.lex_self (O := PyProof.Rows.itemOrd)]
    exact toks_ws _ _ _ _ (PyProof.Rows.lex_self (O := PyProof.Rows.itemOrd) _ _ _).symm _ _ n
  · have n' : (Sum.inl (a.at_.length : Int) : Int ⊕ List Nat) ≠ .inl (b.at_.length : Int) := fun z => n (by have := Sum.inl.inj z; omega)
    rw [PyProof.Rows.lex_diff (O := PyProof.Rows.itemOrd) n', PyProof.Rows.lex_diff (O := PyProof.Rows.itemOrd) n']
theorem sort_LR (rs : List Ru) : rs.mergeSort (PySem.W.dataLe false kL) = sortR rs := by
  show _ = rs.mergeSort (PySem.W.dataLe false kR)
  rw [show PySem.W.dataLe false kL = PySem.W.dataLe false kR from funext fun a => funext fun b => by
    show (!PySem.W.dataLt (kL b) (kL a)) = (!PySem.W.dataLt (kR b) (kR a))
    rw [lt_LR]]
theorem alike_kL (r r' : Ru) : PySem.W.alike (kL r) (kL r') = true := by
  simp only [kL, dA, PySem.W.alike, PySem.W.alikeAll, alike_dW, alike_texts, Bool.and_true, Bool.true_and]
theorem depth_kL (r : Ru) : (kL r).depth ≤ 8 := by
  simp only [kL, dA, PyData.depth, PyData.depthAll, depthAll_W]
  have h : ∀ w : Wd, (dW w).depth = 0 := fun _ => rfl
  rw [h]
  decide
theorem zip_vals2 {H : Hp} {xs : List V} {rs : List Ru} (pr : RusAt K H xs rs) : ∃ zs : List (Ru × V), zs.map (·.1) = rs ∧ zs.map (·.2) = xs ∧ ∀ z ∈ zs, RuAt K H z.2 z.1 := by
  unfold RusAt at pr
  induction pr with
  | nil => exact ⟨[], rfl, rfl, fun z hz => nomatch hz⟩
  | @cons v r vs rs h t ih =>
    obtain ⟨zs, h1, h2, h3⟩ := ih
    refine ⟨(r, v) :: zs, by rw [List.map_cons, h1], by rw [List.map_cons, h2], fun z hz => ?_⟩
    rcases List.mem_cons.mp hz with rfl | hz
    · exact h
    · exact h3 z hz
theorem sort_zipL (zs : List (Ru × V)) : (zs.mergeSort (PySem.W.dataLe false fun z => kL z.1)).map (·.1) = sortR (zs.map (·.1)) := by
  rw [← sort_LR]
  exact List.map_mergeSort fun a _ b _ => rfl
theorem _root_.LamX.ExtN.kt {H H' : Hp} (s : ExtN H H') : KeepT H H' := ⟨fun b xs e => s b _ e (fun _ z => (nomatch z)), fun b o u e => s b _ e (fun _ z => (nomatch z))⟩
abbrev N_law_table_text : List Str := ["_law_rules_here", "_law_lines", "_law_rule_here"]
theorem sc_law_table_text : FnScope N_law_table_text ["_law_rules_here"] (defScope s_law_table_text) := ⟨rfl, rfl, rfl, by decide +kernel, rfl, by decide +kernel, by decide +kernel⟩
theorem st_law_table_text (x0 : V) : L2.start N_law_table_text [x0] = [some x0, none, none] := rfl
def p_law_table_text (tP : Addr) : V → Hp → VK → Prop := fun v H Q => ∃ (p : Addr) (xs : List V) (rs : List Ru), v = .ref p ∧ H p = some (.lst xs) ∧ RusAt K H xs rs ∧ OkRs rs ∧ TabS H tP lamQ ∧ ∀ H', ExtN H H' → TabS H' tP lamQ → Q (.str (T (tTb (sortR rs)))) H'
theorem ok_law_table_text {c tP : Addr} (L : Lw K mg) (LT : LamT K mg base a_law_table_text c tP) : FN P w K mg base 5 a_law_table_text (sp1 (p_law_table_text (K := K) tP)) := by
  obtain ⟨fd, F⟩ := L.law_table_text
  refine fn_anyC F LT.lk sc_law_table_text (len1 rfl) (fun _ _ _ _ _ _ us hl => match us, hl with | [_], _ => rfl) fun A outer s H vs Q E hr h => ?_
  obtain ⟨_, rfl, p, xs, rs, rfl, ep, hx, ok, tb, k⟩ := h
  have nd := sc_law_table_text.nd
  refine ⟨_, (pss_cons (ps_set (i := 1) nd rfl (Or.inl rfl) (pe_callBK (cr_sortK (kc_lam (k := 0) (x := "_law_rule_here") (q := lamQ) (N := ["_law_rule_here"]) (params := lamPar) (body := lamBody) (scope := lamScope) (sp := p_lam K) lamS (hr.mono (by decide)) (fun _ _ _ _ => rfl) (lam_body L)) rfl hr.units) (by rfl) L.z_sorted (by decide +kernel) (pa_cons (pv 0) pa_nil) (pk_cons (pe_lam (P := tP) (q := lamQ) (params := lamPar) (body := lamBody) (scope := lamScope) LT.tb rfl rfl rfl (by decide) rfl) pk_nil))) (pss_one (ps_ret (pe_join pe_str (pe_lc (own := [("_law_rule_here", 2)]) (g := gName 2) rfl nd (pi_list (pv 1)) (blkOk_by (N := N_law_table_text) (sc := defScope s_law_table_text) (by decide +kernel)) (fun _ _ _ _ _ => (pg_name (i := 2) nd rfl (Or.inl rfl))) (fun _ _ _ _ _ => pts_nil) (fun _ _ _ _ _ => (pe_g (ok_law_rule_text L) (hr.mono (by decide)) rfl L.g_law_rule_text L.law_rule_text.kp (pa_cons (pv 2) pa_nil)))))))), ?_⟩
  simp only [tSl, tPart, tNoPart, tCKw, tVals, gStar, gCons, gNil, StX.tStar, tFmtS, tFmtI, tM0, tJs, tM1, rNewStrs, tMatch, setAll, lit_to, lit_page, lit_section, lit_gone, lit_exact, lit_open, tAsg, tRet, tRetN, tDrop, tNext, tNever, tNot, tB, tTest, tCB, tCons, tVar, tC, tNil, tOp, tUn, tAndV, tOrV, tNotV, tChain, tTup, tLst, tCallR, tMethN, tMakeN, tPropN, tYes, gName, cx_K, cx_P, cx_w, rI0, rI, rEq, rNe, List.getElem?_cons_zero, List.getElem?_cons_succ, List.set_cons_zero, List.set_cons_succ, Option.some.injEq, exists_eq_left', exists_eq_left, V.bl.injEq, V.int.injEq, V.str.injEq, V.ref.injEq, List.cons.injEq, and_true, true_and, exists_and_left, and_assoc, List.append_nil, st_law_table_text, tMkLam]
  have hxl := Paired.length hx
  have h40 := ok.hi
  refine sasg_cut (Src := fun v H1 => ∃ q ys, v = .ref q ∧ ExtN H H1 ∧ TabS H1 tP lamQ ∧ H1 q = some (.lst ys) ∧ RusAt K H1 ys (sortR rs)) (fun R rr => ?_) ?_
  · simp only [tSl, tPart, tNoPart, tCKw, tVals, gStar, gCons, gNil, StX.tStar, tFmtS, tFmtI, tM0, tJs, tM1, rNewStrs, tMatch, setAll, lit_to, lit_page, lit_section, lit_gone, lit_exact, lit_open, tSeq, tAsg, tIfS, tRet, tRetN, tDrop, tNext, tNever, tOr, tAnd, tNot, tB, tTest, tCB, tCons, tVar, tC, tNil, tOp, tUn, tIf, tAndV, tOrV, tNotV, tChain, tTup, tLst, tCallR, tMethN, tMakeN, tPropN, tYes, gName, cx_K, cx_P, cx_w, rI0, rI, rEq, rNe, List.getElem?_cons_zero, List.getElem?_cons_succ, List.set_cons_zero, List.set_cons_succ, Option.some.injEq, exists_eq_left', exists_eq_left, V.bl.injEq, V.int.injEq, V.str.injEq, V.ref.injEq, List.cons.injEq, and_true, true_and, exists_and_left, and_assoc, List.append_nil, tCKw]
    refine ⟨tb, fun f c' pm ctv H1 eN T1 ef ec => ?_⟩
    obtain ⟨zs, z1, z2, z3⟩ := zip_vals2 hx
    have zl : zs.length ≤ 40 := by rw [← List.length_map (f := fun z : Ru × V => z.1), z1]; exact ok.hi
    have kt := eN.kt
    refine ⟨p, f, Ru × V, zs, (·.2), fun z => kL z.1, rfl, rfl, .inl (by rw [z2]; exact SqL.of (eN _ _ ep fun _ z => nomatch z)), by omega, ?_, ?_, ?_, ?_, ?_⟩
    · intro x hx y hy
      obtain ⟨a, _, rfl⟩ := List.mem_map.mp hx
      obtain ⟨b, _, rfl⟩ := List.mem_map.mp hy
      exact alike_kL _ _
    · refine .inl fun x hx => ?_
      obtain ⟨a, _, rfl⟩ := List.mem_map.mp hx
      exact ⟨_, _, rfl⟩
    · exact fun z _ => depth_kL _
    · exact fun z hz H2 Q' s2 q => ⟨c', pm, ctv, s2 _ _ ef, s2 _ _ ec, z.1, ((z3 z hz).kt kt).mono s2, ok.ok z.1 (by rw [← z1]; exact List.mem_map_of_mem hz), q⟩
    · intro q H2 s2 _ e2
      refine rr _ H2 ⟨q, _, rfl, eN.trans (ExtN.of s2), T1.ext s2, e2, ?_⟩
      have h := zip_rus (K := K) (H := H2) (zs := zs.mergeSort (PySem.W.dataLe false fun z => kL z.1)) fun z hz => ((z3 z (List.mem_mergeSort.mp hz)).kt kt).mono s2
      rw [sort_zipL, z1] at h
      exact h
  rintro _ H1 ⟨q, ys, rfl, eN, T1, eq, hy⟩
  have oks := ok.sort
  have hyl := Paired.length hy
  have hsl : (sortR rs).length ≤ 40 := oks.hi
  simp only [tSl, tPart, tNoPart, tCKw, tVals, gStar, gCons, gNil, StX.tStar, tFmtS, tFmtI, tM0, tJs, tM1, rNewStrs, tMatch, setAll, lit_to, lit_page, lit_section, lit_gone, lit_exact, lit_open, tSeq, tAsg, tIfS, tRet, tRetN, tDrop, tNext, tNever, tOr, tAnd, tNot, tB, tTest, tCB, tCons, tVar, tC, tNil, tOp, tUn, tIf, tAndV, tOrV, tNotV, tChain, tTup, tLst, tCallR, tMethN, tMakeN, tPropN, tYes, gName, cx_K, cx_P, cx_w, rI0, rI, rEq, rNe, List.getElem?_cons_zero, List.getElem?_cons_succ, List.set_cons_zero, List.set_cons_succ, Option.some.injEq, exists_eq_left', exists_eq_left, V.bl.injEq, V.int.injEq, V.str.injEq, V.ref.injEq, List.cons.injEq, and_true, true_and, exists_and_left, and_assoc, List.append_nil]
  refine ⟨⟨_, rfl⟩, ?_⟩
  refine tLc_strs (walk_list (a := q)) (fun R r => ⟨_, rfl, q, rfl, ⟨_, SqL.of eq⟩, r⟩) ((sortR rs).map tR) (by rw [List.length_map, hyl]) (by omega) (fun H' s => SqL.of (s _ _ eq)) (fun _ => rfl) ?_ ?_
  · rintro j y H6 H7 z Q' hz s6 ⟨rfl, hyj⟩ k'
    obtain ⟨r, hri, hra⟩ := paired_get hy hyj
    rw [List.getElem?_map, hri] at hz
    cases hz
    simp only [tSl, tPart, tNoPart, tCKw, tVals, gStar, gCons, gNil, StX.tStar, tFmtS, tFmtI, tM0, tJs, tM1, rNewStrs, tMatch, setAll, lit_to, lit_page, lit_section, lit_gone, lit_exact, lit_open, tSeq, tAsg, tIfS, tRet, tRetN, tDrop, tNext, tNever, tOr, tAnd, tNot, tB, tTest, tCB, tCons, tVar, tC, tNil, tOp, tUn, tIf, tAndV, tOrV, tNotV, tChain, tTup, tLst, tCallR, tMethN, tMakeN, tPropN, tYes, gName, cx_K, cx_P, cx_w, rI0, rI, rEq, rNe, List.getElem?_cons_zero, List.getElem?_cons_succ, List.set_cons_zero, List.set_cons_succ, Option.some.injEq, exists_eq_left', exists_eq_left, V.bl.injEq, V.int.injEq, V.str.injEq, V.ref.injEq, List.cons.injEq, and_true, true_and, exists_and_left, and_assoc, List.append_nil]
    exact ⟨_, rfl, _, rfl, r, hra.mono s6, oks.ok r (List.mem_of_getElem? hri), k'⟩
  · intro D H2 hD s2 e2
    refine ⟨D, rfl, ((sortR rs).map tR).map T, .inl (SqL.of e2), ?_, ?_⟩
    · rw [lx_nl]
      exact join_len (rus_lens oks.ok) (by decide) (by rw [List.length_map]; omega)
    · rw [lx_nl, join_T]
      exact k H2 (eN.trans (ExtN.of s2)) (T1.ext s2)
end
end K88
set_option maxHeartbeats 4000000
/-! Sites and servers, by the law. -/
namespace K88
open PySem PySem.Spec PyProof.Rows L2
section
variable {P : Program} {w : World} {K : PySem.W.Frag} {mg : Str → Option Value} {base : Heap}
abbrev N_law_happen : List Str := ["_law_site_here", "_law_event", "_law_day", "_law_word", "_law_sort", "_law_name"]
theorem sc_law_happen : FnScope N_law_happen ["_law_site_here", "_law_event"] (defScope s_law_happen) := ⟨rfl, rfl, rfl, by decide +kernel, rfl, by decide +kernel, by decide +kernel⟩
theorem st_law_happen (x0 x1 : V) : L2.start N_law_happen [x0, x1] = [some x0, some x1, none, none, none, none] := rfl
def p_law_happen : V → V → Hp → VK → Prop := fun v ev H Q => ∃ a st p e, v = .ref a ∧ EvAt K H ev e ∧ SiteAt K H a st p ∧ Wf st ∧ Can st e ∧ DoneS K H a p (st.doEv e) Q
theorem ok_law_happen (L : Lw K mg) : FN P w K mg base 6 a_law_happen (sp2 (p_law_happen (K := K))) := by
  obtain ⟨fd, F⟩ := L.law_happen
  refine fn_any F sc_law_happen (len2 rfl) (fun _ _ _ _ _ _ us hl => match us, hl with | [_, _], _ => rfl) fun cdv A outer s H vs Q E hr h => ?_
  obtain ⟨_, _, rfl, a, st, p, e, rfl, he, S, W, C, k⟩ := h
  have nd := sc_law_happen.nd
  refine ⟨_, (pss_cons (ps_asg (pe_slice sl_tupA (pv 1) po_none (po_some pe_int)) (pg_tup rfl (pgs_cons (pg_name (i := 2) nd rfl (Or.inl rfl)) (pgs_cons (pg_name (i := 3) nd rfl (Or.inl rfl)) (pgs_cons (pg_name (i := 4) nd rfl (Or.inl rfl)) (pgs_cons (pg_name (i := 5) nd rfl (Or.inl rfl)) pgs_nil)))))) (pss_one (ps_if (PW.pt (pw_and (pt_cmpR op_eq (pv 3) pe_str (nomark _)) (pw_and1 (pt_cmpR op_eq (pv 4) pe_str (nomark _))))) (pss_one (ps_expr (pe_m (pv 0) L.c_Site L.m_Site_put_page (ok_Site_put_page L) (hr.mono (by decide)) (pa_cons (pv 2) (pa_cons (pv 5) (pa_cons (pe_ix (ix_tupK (K := K) rfl) (pv 1) pe_int (fun _ _ => rfl)) pa_nil)))))) (pss_one (ps_if (pt_cmpR op_eq (pv 3) pe_str (nomark _)) (pss_one (ps_expr (pe_m (pv 0) L.c_Site L.m_Site_put_section (ok_Site_put_section L) (hr.mono (by decide)) (pa_cons (pv 2) (pa_cons (pv 5) (pa_cons (pe_ix (ix_tupK (K := K) rfl) (pv 1) pe_int (fun _ _ => rfl)) pa_nil)))))) (pss_one (ps_if (pt_cmpR op_eq (pv 3) pe_str (nomark _)) (pss_one (ps_expr (pe_m (pv 0) L.c_Site L.m_Site_move (ok_Site_move L) (hr.mono (by decide)) (pa_cons (pv 2) (pa_cons (pv 5) (pa_cons (pe_ix (ix_tupK (K := K) rfl) (pv 1) pe_int (fun _ _ => rfl)) pa_nil)))))) (pss_one (ps_if (pt_cmpR op_eq (pv 3) pe_str (nomark _)) (pss_one (ps_expr (pe_m (pv 0) L.c_Site L.m_Site_bring (ok_Site_bring L) (hr.mono (by decide)) (pa_cons (pv 2) (pa_cons (pv 5) (pa_cons (pe_ix (ix_tupK (K := K) rfl) (pv 1) pe_int (fun _ _ => rfl)) pa_nil)))))) (pss_one (ps_if (pt_cmpR op_eq (pv 3) pe_str (nomark _)) (pss_one (ps_expr (pe_m (pv 0) L.c_Site L.m_Site_merge (ok_Site_merge L) (hr.mono (by decide)) (pa_cons (pv 2) (pa_cons (pv 5) (pa_cons (pe_ix (ix_tupK (K := K) rfl) (pv 1) pe_int (fun _ _ => rfl)) pa_nil)))))) (pss_one (ps_expr (pe_m (pv 0) L.c_Site L.m_Site_take (ok_Site_take L) (hr.mono (by decide)) (pa_cons (pv 2) (pa_cons (pv 5) pa_nil)))))))))))))))), ?_⟩
  simp only [tSl, tPart, tNoPart, tCKw, tVals, gStar, gCons, gNil, StX.tStar, tFmtS, tFmtI, tM0, tJs, tM1, rNewStrs, tMatch, setAll, lit_to, lit_page, lit_section, lit_gone, lit_exact, lit_open, tAsg, tRet, tRetN, tDrop, tNext, tNever, tNot, tB, tTest, tCB, tCons, tVar, tC, tNil, tOp, tUn, tAndV, tOrV, tNotV, tChain, tTup, tLst, tCallR, tMethN, tMakeN, tPropN, tYes, gName, cx_K, cx_P, cx_w, rI0, rI, rEq, rNe, List.getElem?_cons_zero, List.getElem?_cons_succ, List.set_cons_zero, List.set_cons_succ, Option.some.injEq, exists_eq_left', exists_eq_left, V.bl.injEq, V.int.injEq, V.str.injEq, V.ref.injEq, List.cons.injEq, and_true, true_and, exists_and_left, and_assoc, List.append_nil, st_law_happen]
  have ok := C.okEv
  obtain ⟨dx, ea⟩ := S.ins
  cases e with
  | take d so n =>
    obtain ⟨t, rfl, q⟩ := he
    refine seq_cut (Src := fun σ H1 => Same H H1 ∧ σ = [some (.ref a), some (.ref t), some (.int (d : Int)), some (vW sTake), some (vW (sortN so)), some (vW n)]) (fun R rr => ?_) ?_
    · simp only [tSl, tPart, tNoPart, tCKw, tVals, gStar, gCons, gNil, StX.tStar, tFmtS, tFmtI, tM0, tJs, tM1, rNewStrs, tMatch, setAll, lit_to, lit_page, lit_section, lit_gone, lit_exact, lit_open, tSeq, tAsg, tIfS, tRet, tRetN, tDrop, tNext, tNever, tOr, tAnd, tNot, tB, tTest, tCB, tCons, tVar, tC, tNil, tOp, tUn, tIf, tAndV, tOrV, tNotV, tChain, tTup, tLst, tCallR, tMethN, tMakeN, tPropN, tYes, gName, cx_K, cx_P, cx_w, rI0, rI, rEq, rNe, List.getElem?_cons_zero, List.getElem?_cons_succ, List.set_cons_zero, List.set_cons_succ, Option.some.injEq, exists_eq_left', exists_eq_left, V.bl.injEq, V.int.injEq, V.str.injEq, V.ref.injEq, List.cons.injEq, and_true, true_and, exists_and_left, and_assoc, List.append_nil, rSlA, gTup, gCons, gNil]
      exact ⟨_, q, (fun _ => ⟨_, q, rfl, _, _, rfl, _, _, rfl, _, _, rfl, _, _, rfl, rfl, rr _ _ ⟨Same.refl _, rfl⟩⟩), fun z => absurd (show HT.sIx 4 0 none = 0 ∧ HT.sIx 4 4 (some 4) = 4 by decide) z⟩
    rintro _ H1 ⟨s1, rfl⟩
    refine if_no (fun R r => ?_) fun H2 s2 => ?_
    · simp only [tSl, tPart, tNoPart, tCKw, tVals, gStar, gCons, gNil, StX.tStar, tFmtS, tFmtI, tM0, tJs, tM1, rNewStrs, tMatch, setAll, lit_to, lit_page, lit_section, lit_gone, lit_exact, lit_open, tSeq, tAsg, tIfS, tRet, tRetN, tDrop, tNext, tNever, tOr, tAnd, tNot, tB, tTest, tCB, tCons, tVar, tC, tNil, tOp, tUn, tIf, tAndV, tOrV, tNotV, tChain, tTup, tLst, tCallR, tMethN, tMakeN, tPropN, tYes, gName, cx_K, cx_P, cx_w, rI0, rI, rEq, rNe, List.getElem?_cons_zero, List.getElem?_cons_succ, List.set_cons_zero, List.set_cons_succ, Option.some.injEq, exists_eq_left', exists_eq_left, V.bl.injEq, V.int.injEq, V.str.injEq, V.ref.injEq, List.cons.injEq, and_true, true_and, exists_and_left, and_assoc, List.append_nil]
      rw [lw lx_put]
      refine ⟨scal_W, ?_⟩
      rw [dec_W, decide_eq_false (show ¬ sTake = sPut by decide)]
      exact iteF (r _ (Same.refl _))
    refine if_no (fun R r => ?_) fun H3 s3 => ?_
    · simp only [tSl, tPart, tNoPart, tCKw, tVals, gStar, gCons, gNil, StX.tStar, tFmtS, tFmtI, tM0, tJs, tM1, rNewStrs, tMatch, setAll, lit_to, lit_page, lit_section, lit_gone, lit_exact, lit_open, tSeq, tAsg, tIfS, tRet, tRetN, tDrop, tNext, tNever, tOr, tAnd, tNot, tB, tTest, tCB, tCons, tVar, tC, tNil, tOp, tUn, tIf, tAndV, tOrV, tNotV, tChain, tTup, tLst, tCallR, tMethN, tMakeN, tPropN, tYes, gName, cx_K, cx_P, cx_w, rI0, rI, rEq, rNe, List.getElem?_cons_zero, List.getElem?_cons_succ, List.set_cons_zero, List.set_cons_succ, Option.some.injEq, exists_eq_left', exists_eq_left, V.bl.injEq, V.int.injEq, V.str.injEq, V.ref.injEq, List.cons.injEq, and_true, true_and, exists_and_left, and_assoc, List.append_nil]
      rw [lw lx_put]
      refine ⟨scal_W, ?_⟩
      rw [dec_W, decide_eq_false (show ¬ sTake = sPut by decide)]
      exact r _ (Same.refl _)
    refine if_no (fun R r => ?_) fun H4 s4 => ?_
    · simp only [tSl, tPart, tNoPart, tCKw, tVals, gStar, gCons, gNil, StX.tStar, tFmtS, tFmtI, tM0, tJs, tM1, rNewStrs, tMatch, setAll, lit_to, lit_page, lit_section, lit_gone, lit_exact, lit_open, tSeq, tAsg, tIfS, tRet, tRetN, tDrop, tNext, tNever, tOr, tAnd, tNot, tB, tTest, tCB, tCons, tVar, tC, tNil, tOp, tUn, tIf, tAndV, tOrV, tNotV, tChain, tTup, tLst, tCallR, tMethN, tMakeN, tPropN, tYes, gName, cx_K, cx_P, cx_w, rI0, rI, rEq, rNe, List.getElem?_cons_zero, List.getElem?_cons_succ, List.set_cons_zero, List.set_cons_succ, Option.some.injEq, exists_eq_left', exists_eq_left, V.bl.injEq, V.int.injEq, V.str.injEq, V.ref.injEq, List.cons.injEq, and_true, true_and, exists_and_left, and_assoc, List.append_nil]
      rw [lw lx_move]
      refine ⟨scal_W, ?_⟩
      rw [dec_W, decide_eq_false (show ¬ sTake = sMove by decide)]
      exact r _ (Same.refl _)
    refine if_no (fun R r => ?_) fun H5 s5 => ?_
    · simp only [tSl, tPart, tNoPart, tCKw, tVals, gStar, gCons, gNil, StX.tStar, tFmtS, tFmtI, tM0, tJs, tM1, rNewStrs, tMatch, setAll, lit_to, lit_page, lit_section, lit_gone, lit_exact, lit_open, tSeq, tAsg, tIfS, tRet, tRetN, tDrop, tNext, tNever, tOr, tAnd, tNot, tB, tTest, tCB, tCons, tVar, tC, tNil, tOp, tUn, tIf, tAndV, tOrV, tNotV, tChain, tTup, tLst, tCallR, tMethN, tMakeN, tPropN, tYes, gName, cx_K, cx_P, cx_w, rI0, rI, rEq, rNe, List.getElem?_cons_zero, List.getElem?_cons_succ, List.set_cons_zero, List.set_cons_succ, Option.some.injEq, exists_eq_left', exists_eq_left, V.bl.injEq, V.int.injEq, V.str.injEq, V.ref.injEq, List.cons.injEq, and_true, true_and, exists_and_left, and_assoc, List.append_nil]
      rw [lw lx_bring]
      refine ⟨scal_W, ?_⟩
      rw [dec_W, decide_eq_false (show ¬ sTake = sBring by decide)]
      exact r _ (Same.refl _)
    refine if_no (fun R r => ?_) fun H6 s6 => ?_
    · simp only [tSl, tPart, tNoPart, tCKw, tVals, gStar, gCons, gNil, StX.tStar, tFmtS, tFmtI, tM0, tJs, tM1, rNewStrs, tMatch, setAll, lit_to, lit_page, lit_section, lit_gone, lit_exact, lit_open, tSeq, tAsg, tIfS, tRet, tRetN, tDrop, tNext, tNever, tOr, tAnd, tNot, tB, tTest, tCB, tCons, tVar, tC, tNil, tOp, tUn, tIf, tAndV, tOrV, tNotV, tChain, tTup, tLst, tCallR, tMethN, tMakeN, tPropN, tYes, gName, cx_K, cx_P, cx_w, rI0, rI, rEq, rNe, List.getElem?_cons_zero, List.getElem?_cons_succ, List.set_cons_zero, List.set_cons_succ, Option.some.injEq, exists_eq_left', exists_eq_left, V.bl.injEq, V.int.injEq, V.str.injEq, V.ref.injEq, List.cons.injEq, and_true, true_and, exists_and_left, and_assoc, List.append_nil]
      rw [lw lx_merge]
      refine ⟨scal_W, ?_⟩
      rw [dec_W, decide_eq_false (show ¬ sTake = sMerge by decide)]
      exact r _ (Same.refl _)
    have sA := (((((s1.trans s2).trans s3).trans s4).trans s5).trans s6)
    simp only [tSl, tPart, tNoPart, tCKw, tVals, gStar, gCons, gNil, StX.tStar, tFmtS, tFmtI, tM0, tJs, tM1, rNewStrs, tMatch, setAll, lit_to, lit_page, lit_section, lit_gone, lit_exact, lit_open, tSeq, tAsg, tIfS, tRet, tRetN, tDrop, tNext, tNever, tOr, tAnd, tNot, tB, tTest, tCB, tCons, tVar, tC, tNil, tOp, tUn, tIf, tAndV, tOrV, tNotV, tChain, tTup, tLst, tCallR, tMethN, tMakeN, tPropN, tYes, gName, cx_K, cx_P, cx_w, rI0, rI, rEq, rNe, List.getElem?_cons_zero, List.getElem?_cons_succ, List.set_cons_zero, List.set_cons_succ, Option.some.injEq, exists_eq_left', exists_eq_left, V.bl.injEq, V.int.injEq, V.str.injEq, V.ref.injEq, List.cons.injEq, and_true, true_and, exists_and_left, and_assoc, List.append_nil]
    exact ⟨dx, _, sA _ _ ea, rfl, _, _, _, rfl, a, st, p, d, so, n, rfl, rfl, rfl, S.mono sA, W, C, k.same sA⟩
  | merge d so n o =>
    obtain ⟨t, rfl, q⟩ := he
    refine seq_cut (Src := fun σ H1 => Same H H1 ∧ σ = [some (.ref a), some (.ref t), some (.int (d : Int)), some (vW sMerge), some (vW (sortN so)), some (vW n)]) (fun R rr => ?_) ?_
    · simp only [tSl, tPart, tNoPart, tCKw, tVals, gStar, gCons, gNil, StX.tStar, tFmtS, tFmtI, tM0, tJs, tM1, rNewStrs, tMatch, setAll, lit_to, lit_page, lit_section, lit_gone, lit_exact, lit_open, tSeq, tAsg, tIfS, tRet, tRetN, tDrop, tNext, tNever, tOr, tAnd, tNot, tB, tTest, tCB, tCons, tVar, tC, tNil, tOp, tUn, tIf, tAndV, tOrV, tNotV, tChain, tTup, tLst, tCallR, tMethN, tMakeN, tPropN, tYes, gName, cx_K, cx_P, cx_w, rI0, rI, rEq, rNe, List.getElem?_cons_zero, List.getElem?_cons_succ, List.set_cons_zero, List.set_cons_succ, Option.some.injEq, exists_eq_left', exists_eq_left, V.bl.injEq, V.int.injEq, V.str.injEq, V.ref.injEq, List.cons.injEq, and_true, true_and, exists_and_left, and_assoc, List.append_nil, rSlA, gTup, gCons, gNil]
      exact ⟨_, q, (fun z => absurd z (show ¬ (HT.sIx 5 0 none = 0 ∧ HT.sIx 5 5 (some 4) = 5) by decide)), fun _ l hl => ⟨_, .inl (.inl upd_same), rfl, _, _, rfl, _, _, rfl, _, _, rfl, _, _, rfl, rfl, rr _ _ ⟨(Same.refl _).nw hl, rfl⟩⟩⟩
    rintro _ H1 ⟨s1, rfl⟩
    refine if_no (fun R r => ?_) fun H2 s2 => ?_
    · simp only [tSl, tPart, tNoPart, tCKw, tVals, gStar, gCons, gNil, StX.tStar, tFmtS, tFmtI, tM0, tJs, tM1, rNewStrs, tMatch, setAll, lit_to, lit_page, lit_section, lit_gone, lit_exact, lit_open, tSeq, tAsg, tIfS, tRet, tRetN, tDrop, tNext, tNever, tOr, tAnd, tNot, tB, tTest, tCB, tCons, tVar, tC, tNil, tOp, tUn, tIf, tAndV, tOrV, tNotV, tChain, tTup, tLst, tCallR, tMethN, tMakeN, tPropN, tYes, gName, cx_K, cx_P, cx_w, rI0, rI, rEq, rNe, List.getElem?_cons_zero, List.getElem?_cons_succ, List.set_cons_zero, List.set_cons_succ, Option.some.injEq, exists_eq_left', exists_eq_left, V.bl.injEq, V.int.injEq, V.str.injEq, V.ref.injEq, List.cons.injEq, and_true, true_and, exists_and_left, and_assoc, List.append_nil]
      rw [lw lx_put]
      refine ⟨scal_W, ?_⟩
      rw [dec_W, decide_eq_false (show ¬ sMerge = sPut by decide)]
      exact iteF (r _ (Same.refl _))
    refine if_no (fun R r => ?_) fun H3 s3 => ?_
    · simp only [tSl, tPart, tNoPart, tCKw, tVals, gStar, gCons, gNil, StX.tStar, tFmtS, tFmtI, tM0, tJs, tM1, rNewStrs, tMatch, setAll, lit_to, lit_page, lit_section, lit_gone, lit_exact, lit_open, tSeq, tAsg, tIfS, tRet, tRetN, tDrop, tNext, tNever, tOr, tAnd, tNot, tB, tTest, tCB, tCons, tVar, tC, tNil, tOp, tUn, tIf, tAndV, tOrV, tNotV, tChain, tTup, tLst, tCallR, tMethN, tMakeN, tPropN, tYes, gName, cx_K, cx_P, cx_w, rI0, rI, rEq, rNe, List.getElem?_cons_zero, List.getElem?_cons_succ, List.set_cons_zero, List.set_cons_succ, Option.some.injEq, exists_eq_left', exists_eq_left, V.bl.injEq, V.int.injEq, V.str.injEq, V.ref.injEq, List.cons.injEq, and_true, true_and, exists_and_left, and_assoc, List.append_nil]
      rw [lw lx_put]
      refine ⟨scal_W, ?_⟩
      rw [dec_W, decide_eq_false (show ¬ sMerge = sPut by decide)]
      exact r _ (Same.refl _)
    refine if_no (fun R r => ?_) fun H4 s4 => ?_
    · simp only [tSl, tPart, tNoPart, tCKw, tVals, gStar, gCons, gNil, StX.tStar, tFmtS, tFmtI, tM0, tJs, tM1, rNewStrs, tMatch, setAll, lit_to, lit_page, lit_section, lit_gone, lit_exact, lit_open, tSeq, tAsg, tIfS, tRet, tRetN, tDrop, tNext, tNever, tOr, tAnd, tNot, tB, tTest, tCB, tCons, tVar, tC, tNil, tOp, tUn, tIf, tAndV, tOrV, tNotV, tChain, tTup, tLst, tCallR, tMethN, tMakeN, tPropN, tYes, gName, cx_K, cx_P, cx_w, rI0, rI, rEq, rNe, List.getElem?_cons_zero, List.getElem?_cons_succ, List.set_cons_zero, List.set_cons_succ, Option.some.injEq, exists_eq_left', exists_eq_left, V.bl.injEq, V.int.injEq, V.str.injEq, V.ref.injEq, List.cons.injEq, and_true, true_and, exists_and_left, and_assoc, List.append_nil]
      rw [lw lx_move]
      refine ⟨scal_W, ?_⟩
      rw [dec_W, decide_eq_false (show ¬ sMerge = sMove by decide)]
      exact r _ (Same.refl _)
    refine if_no (fun R r => ?_) fun H5 s5 => ?_
    · simp only [tSl, tPart, tNoPart, tCKw, tVals, gStar, gCons, gNil, StX.tStar, tFmtS, tFmtI, tM0, tJs, tM1, rNewStrs, tMatch, setAll, lit_to, lit_page, lit_section, lit_gone, lit_exact, lit_open, tSeq, tAsg, tIfS, tRet, tRetN, tDrop, tNext, tNever, tOr, tAnd, tNot, tB, tTest, tCB, tCons, tVar, tC, tNil, tOp, tUn, tIf, tAndV, tOrV, tNotV, tChain, tTup, tLst, tCallR, tMethN, tMakeN, tPropN, tYes, gName, cx_K, cx_P, cx_w, rI0, rI, rEq, rNe, List.getElem?_cons_zero, List.getElem?_cons_succ, List.set_cons_zero, List.set_cons_succ, Option.some.injEq, exists_eq_left', exists_eq_left, V.bl.injEq, V.int.injEq, V.str.injEq, V.ref.injEq, List.cons.injEq, and_true, true_and, exists_and_left, and_assoc, List.append_nil]
      rw [lw lx_bring]
      refine ⟨scal_W, ?_⟩
      rw [dec_W, decide_eq_false (show ¬ sMerge = sBring by decide)]
      exact r _ (Same.refl _)
    refine if_yes (fun R r => ?_) fun H6 s6 => ?_
    · simp only [tSl, tPart, tNoPart, tCKw, tVals, gStar, gCons, gNil, StX.tStar, tFmtS, tFmtI, tM0, tJs, tM1, rNewStrs, tMatch, setAll, lit_to, lit_page, lit_section, lit_gone, lit_exact, lit_open, tSeq, tAsg, tIfS, tRet, tRetN, tDrop, tNext, tNever, tOr, tAnd, tNot, tB, tTest, tCB, tCons, tVar, tC, tNil, tOp, tUn, tIf, tAndV, tOrV, tNotV, tChain, tTup, tLst, tCallR, tMethN, tMakeN, tPropN, tYes, gName, cx_K, cx_P, cx_w, rI0, rI, rEq, rNe, List.getElem?_cons_zero, List.getElem?_cons_succ, List.set_cons_zero, List.set_cons_succ, Option.some.injEq, exists_eq_left', exists_eq_left, V.bl.injEq, V.int.injEq, V.str.injEq, V.ref.injEq, List.cons.injEq, and_true, true_and, exists_and_left, and_assoc, List.append_nil]
      rw [lw lx_merge]
      refine ⟨scal_W, ?_⟩
      rw [dec_W, decide_eq_true (show sMerge = sMerge from rfl)]
      exact r _ (Same.refl _)
    have sA := (((((s1.trans s2).trans s3).trans s4).trans s5).trans s6)
    simp only [tSl, tPart, tNoPart, tCKw, tVals, gStar, gCons, gNil, StX.tStar, tFmtS, tFmtI, tM0, tJs, tM1, rNewStrs, tMatch, setAll, lit_to, lit_page, lit_section, lit_gone, lit_exact, lit_open, tSeq, tAsg, tIfS, tRet, tRetN, tDrop, tNext, tNever, tOr, tAnd, tNot, tB, tTest, tCB, tCons, tVar, tC, tNil, tOp, tUn, tIf, tAndV, tOrV, tNotV, tChain, tTup, tLst, tCallR, tMethN, tMakeN, tPropN, tYes, gName, cx_K, cx_P, cx_w, rI0, rI, rEq, rNe, List.getElem?_cons_zero, List.getElem?_cons_succ, List.set_cons_zero, List.set_cons_succ, Option.some.injEq, exists_eq_left', exists_eq_left, V.bl.injEq, V.int.injEq, V.str.injEq, V.ref.injEq, List.cons.injEq, and_true, true_and, exists_and_left, and_assoc, List.append_nil]
    exact ⟨dx, _, sA _ _ ea, rfl, ixT_at (i := 4) (sA.sqt q) rfl ⟨_, _, _, _, rfl, a, st, p, d, so, n, o, rfl, rfl, rfl, rfl, S.mono sA, W, C, k.same sA⟩⟩
  | pl vb d so n pl =>
    obtain ⟨t, u, rfl, q, hu⟩ := he
    cases vb with
    | put =>
      cases so with
      | false =>
        refine seq_cut (Src := fun σ H1 => Same H H1 ∧ σ = [some (.ref a), some (.ref t), some (.int (d : Int)), some (vW sPut), some (vW sPage), some (vW n)]) (fun R rr => ?_) ?_
        · simp only [tSl, tPart, tNoPart, tCKw, tVals, gStar, gCons, gNil, StX.tStar, tFmtS, tFmtI, tM0, tJs, tM1, rNewStrs, tMatch, setAll, lit_to, lit_page, lit_section, lit_gone, lit_exact, lit_open, tSeq, tAsg, tIfS, tRet, tRetN, tDrop, tNext, tNever, tOr, tAnd, tNot, tB, tTest, tCB, tCons, tVar, tC, tNil, tOp, tUn, tIf, tAndV, tOrV, tNotV, tChain, tTup, tLst, tCallR, tMethN, tMakeN, tPropN, tYes, gName, cx_K, cx_P, cx_w, rI0, rI, rEq, rNe, List.getElem?_cons_zero, List.getElem?_cons_succ, List.set_cons_zero, List.set_cons_succ, Option.some.injEq, exists_eq_left', exists_eq_left, V.bl.injEq, V.int.injEq, V.str.injEq, V.ref.injEq, List.cons.injEq, and_true, true_and, exists_and_left, and_assoc, List.append_nil, rSlA, gTup, gCons, gNil]
          exact ⟨_, q, (fun z => absurd z (show ¬ (HT.sIx 5 0 none = 0 ∧ HT.sIx 5 5 (some 4) = 5) by decide)), fun _ l hl => ⟨_, .inl (.inl upd_same), rfl, _, _, rfl, _, _, rfl, _, _, rfl, _, _, rfl, rfl, rr _ _ ⟨(Same.refl _).nw hl, rfl⟩⟩⟩
        rintro _ H1 ⟨s1, rfl⟩
        refine if_yes (fun R r => ?_) fun H2 s2 => ?_
        · simp only [tSl, tPart, tNoPart, tCKw, tVals, gStar, gCons, gNil, StX.tStar, tFmtS, tFmtI, tM0, tJs, tM1, rNewStrs, tMatch, setAll, lit_to, lit_page, lit_section, lit_gone, lit_exact, lit_open, tSeq, tAsg, tIfS, tRet, tRetN, tDrop, tNext, tNever, tOr, tAnd, tNot, tB, tTest, tCB, tCons, tVar, tC, tNil, tOp, tUn, tIf, tAndV, tOrV, tNotV, tChain, tTup, tLst, tCallR, tMethN, tMakeN, tPropN, tYes, gName, cx_K, cx_P, cx_w, rI0, rI, rEq, rNe, List.getElem?_cons_zero, List.getElem?_cons_succ, List.set_cons_zero, List.set_cons_succ, Option.some.injEq, exists_eq_left', exists_eq_left, V.bl.injEq, V.int.injEq, V.str.injEq, V.ref.injEq, List.cons.injEq, and_true, true_and, exists_and_left, and_assoc, List.append_nil]
          rw [lw lx_put]
          refine ⟨scal_W, ?_⟩
          rw [dec_W, decide_eq_true (show sPut = sPut from rfl)]
          refine iteT ⟨scal_W, ?_⟩
          exact r _ (Same.refl _)
        have sA := (s1.trans s2)
        simp only [tSl, tPart, tNoPart, tCKw, tVals, gStar, gCons, gNil, StX.tStar, tFmtS, tFmtI, tM0, tJs, tM1, rNewStrs, tMatch, setAll, lit_to, lit_page, lit_section, lit_gone, lit_exact, lit_open, tSeq, tAsg, tIfS, tRet, tRetN, tDrop, tNext, tNever, tOr, tAnd, tNot, tB, tTest, tCB, tCons, tVar, tC, tNil, tOp, tUn, tIf, tAndV, tOrV, tNotV, tChain, tTup, tLst, tCallR, tMethN, tMakeN, tPropN, tYes, gName, cx_K, cx_P, cx_w, rI0, rI, rEq, rNe, List.getElem?_cons_zero, List.getElem?_cons_succ, List.set_cons_zero, List.set_cons_succ, Option.some.injEq, exists_eq_left', exists_eq_left, V.bl.injEq, V.int.injEq, V.str.injEq, V.ref.injEq, List.cons.injEq, and_true, true_and, exists_and_left, and_assoc, List.append_nil]
        exact ⟨dx, _, sA _ _ ea, rfl, ixT_at (i := 4) (sA.sqt q) rfl ⟨_, _, _, _, rfl, a, st, p, d, n, pl, rfl, rfl, rfl, hu.mono sA, S.mono sA, W, C, k.same sA⟩⟩
      | true =>
        refine seq_cut (Src := fun σ H1 => Same H H1 ∧ σ = [some (.ref a), some (.ref t), some (.int (d : Int)), some (vW sPut), some (vW sSection), some (vW n)]) (fun R rr => ?_) ?_
        · simp only [tSl, tPart, tNoPart, tCKw, tVals, gStar, gCons, gNil, StX.tStar, tFmtS, tFmtI, tM0, tJs, tM1, rNewStrs, tMatch, setAll, lit_to, lit_page, lit_section, lit_gone, lit_exact, lit_open, tSeq, tAsg, tIfS, tRet, tRetN, tDrop, tNext, tNever, tOr, tAnd, tNot, tB, tTest, tCB, tCons, tVar, tC, tNil, tOp, tUn, tIf, tAndV, tOrV, tNotV, tChain, tTup, tLst, tCallR, tMethN, tMakeN, tPropN, tYes, gName, cx_K, cx_P, cx_w, rI0, rI, rEq, rNe, List.getElem?_cons_zero, List.getElem?_cons_succ, List.set_cons_zero, List.set_cons_succ, Option.some.injEq, exists_eq_left', exists_eq_left, V.bl.injEq, V.int.injEq, V.str.injEq, V.ref.injEq, List.cons.injEq, and_true, true_and, exists_and_left, and_assoc, List.append_nil, rSlA, gTup, gCons, gNil]
          exact ⟨_, q, (fun z => absurd z (show ¬ (HT.sIx 5 0 none = 0 ∧ HT.sIx 5 5 (some 4) = 5) by decide)), fun _ l hl => ⟨_, .inl (.inl upd_same), rfl, _, _, rfl, _, _, rfl, _, _, rfl, _, _, rfl, rfl, rr _ _ ⟨(Same.refl _).nw hl, rfl⟩⟩⟩
        rintro _ H1 ⟨s1, rfl⟩
        refine if_no (fun R r => ?_) fun H2 s2 => ?_
        · simp only [tSl, tPart, tNoPart, tCKw, tVals, gStar, gCons, gNil, StX.tStar, tFmtS, tFmtI, tM0, tJs, tM1, rNewStrs, tMatch, setAll, lit_to, lit_page, lit_section, lit_gone, lit_exact, lit_open, tSeq, tAsg, tIfS, tRet, tRetN, tDrop, tNext, tNever, tOr, tAnd, tNot, tB, tTest, tCB, tCons, tVar, tC, tNil, tOp, tUn, tIf, tAndV, tOrV, tNotV, tChain, tTup, tLst, tCallR, tMethN, tMakeN, tPropN, tYes, gName, cx_K, cx_P, cx_w, rI0, rI, rEq, rNe, List.getElem?_cons_zero, List.getElem?_cons_succ, List.set_cons_zero, List.set_cons_succ, Option.some.injEq, exists_eq_left', exists_eq_left, V.bl.injEq, V.int.injEq, V.str.injEq, V.ref.injEq, List.cons.injEq, and_true, true_and, exists_and_left, and_assoc, List.append_nil]
          rw [lw lx_put]
          refine ⟨scal_W, ?_⟩
          rw [dec_W, decide_eq_true (show sPut = sPut from rfl)]
          refine iteT ⟨scal_W, ?_⟩
          rw [dec_W, decide_eq_false (show ¬ sSection = sPage by decide)]
          exact r _ (Same.refl _)
        refine if_yes (fun R r => ?_) fun H3 s3 => ?_
        · simp only [tSl, tPart, tNoPart, tCKw, tVals, gStar, gCons, gNil, StX.tStar, tFmtS, tFmtI, tM0, tJs, tM1, rNewStrs, tMatch, setAll, lit_to, lit_page, lit_section, lit_gone, lit_exact, lit_open, tSeq, tAsg, tIfS, tRet, tRetN, tDrop, tNext, tNever, tOr, tAnd, tNot, tB, tTest, tCB, tCons, tVar, tC, tNil, tOp, tUn, tIf, tAndV, tOrV, tNotV, tChain, tTup, tLst, tCallR, tMethN, tMakeN, tPropN, tYes, gName, cx_K, cx_P, cx_w, rI0, rI, rEq, rNe, List.getElem?_cons_zero, List.getElem?_cons_succ, List.set_cons_zero, List.set_cons_succ, Option.some.injEq, exists_eq_left', exists_eq_left, V.bl.injEq, V.int.injEq, V.str.injEq, V.ref.injEq, List.cons.injEq, and_true, true_and, exists_and_left, and_assoc, List.append_nil]
          rw [lw lx_put]
          refine ⟨scal_W, ?_⟩
          rw [dec_W, decide_eq_true (show sPut = sPut from rfl)]
          exact r _ (Same.refl _)
        have sA := ((s1.trans s2).trans s3)
        simp only [tSl, tPart, tNoPart, tCKw, tVals, gStar, gCons, gNil, StX.tStar, tFmtS, tFmtI, tM0, tJs, tM1, rNewStrs, tMatch, setAll, lit_to, lit_page, lit_section, lit_gone, lit_exact, lit_open, tSeq, tAsg, tIfS, tRet, tRetN, tDrop, tNext, tNever, tOr, tAnd, tNot, tB, tTest, tCB, tCons, tVar, tC, tNil, tOp, tUn, tIf, tAndV, tOrV, tNotV, tChain, tTup, tLst, tCallR, tMethN, tMakeN, tPropN, tYes, gName, cx_K, cx_P, cx_w, rI0, rI, rEq, rNe, List.getElem?_cons_zero, List.getElem?_cons_succ, List.set_cons_zero, List.set_cons_succ, Option.some.injEq, exists_eq_left', exists_eq_left, V.bl.injEq, V.int.injEq, V.str.injEq, V.ref.injEq, List.cons.injEq, and_true, true_and, exists_and_left, and_assoc, List.append_nil]
        exact ⟨dx, _, sA _ _ ea, rfl, ixT_at (i := 4) (sA.sqt q) rfl ⟨_, _, _, _, rfl, a, st, p, d, n, pl, rfl, rfl, rfl, hu.mono sA, S.mono sA, W, C, k.same sA⟩⟩
    | move =>
      refine seq_cut (Src := fun σ H1 => Same H H1 ∧ σ = [some (.ref a), some (.ref t), some (.int (d : Int)), some (vW sMove), some (vW (sortN so)), some (vW n)]) (fun R rr => ?_) ?_
      · simp only [tSl, tPart, tNoPart, tCKw, tVals, gStar, gCons, gNil, StX.tStar, tFmtS, tFmtI, tM0, tJs, tM1, rNewStrs, tMatch, setAll, lit_to, lit_page, lit_section, lit_gone, lit_exact, lit_open, tSeq, tAsg, tIfS, tRet, tRetN, tDrop, tNext, tNever, tOr, tAnd, tNot, tB, tTest, tCB, tCons, tVar, tC, tNil, tOp, tUn, tIf, tAndV, tOrV, tNotV, tChain, tTup, tLst, tCallR, tMethN, tMakeN, tPropN, tYes, gName, cx_K, cx_P, cx_w, rI0, rI, rEq, rNe, List.getElem?_cons_zero, List.getElem?_cons_succ, List.set_cons_zero, List.set_cons_succ, Option.some.injEq, exists_eq_left', exists_eq_left, V.bl.injEq, V.int.injEq, V.str.injEq, V.ref.injEq, List.cons.injEq, and_true, true_and, exists_and_left, and_assoc, List.append_nil, rSlA, gTup, gCons, gNil]
        exact ⟨_, q, (fun z => absurd z (show ¬ (HT.sIx 5 0 none = 0 ∧ HT.sIx 5 5 (some 4) = 5) by decide)), fun _ l hl => ⟨_, .inl (.inl upd_same), rfl, _, _, rfl, _, _, rfl, _, _, rfl, _, _, rfl, rfl, rr _ _ ⟨(Same.refl _).nw hl, rfl⟩⟩⟩
      rintro _ H1 ⟨s1, rfl⟩
      refine if_no (fun R r => ?_) fun H2 s2 => ?_
      · simp only [tSl, tPart, tNoPart, tCKw, tVals, gStar, gCons, gNil, StX.tStar, tFmtS, tFmtI, tM0, tJs, tM1, rNewStrs, tMatch, setAll, lit_to, lit_page, lit_section, lit_gone, lit_exact, lit_open, tSeq, tAsg, tIfS, tRet, tRetN, tDrop, tNext, tNever, tOr, tAnd, tNot, tB, tTest, tCB, tCons, tVar, tC, tNil, tOp, tUn, tIf, tAndV, tOrV, tNotV, tChain, tTup, tLst, tCallR, tMethN, tMakeN, tPropN, tYes, gName, cx_K, cx_P, cx_w, rI0, rI, rEq, rNe, List.getElem?_cons_zero, List.getElem?_cons_succ, List.set_cons_zero, List.set_cons_succ, Option.some.injEq, exists_eq_left', exists_eq_left, V.bl.injEq, V.int.injEq, V.str.injEq, V.ref.injEq, List.cons.injEq, and_true, true_and, exists_and_left, and_assoc, List.append_nil]
        rw [lw lx_put]
        refine ⟨scal_W, ?_⟩
        rw [dec_W, decide_eq_false (show ¬ sMove = sPut by decide)]
        exact iteF (r _ (Same.refl _))
      refine if_no (fun R r => ?_) fun H3 s3 => ?_
      · simp only [tSl, tPart, tNoPart, tCKw, tVals, gStar, gCons, gNil, StX.tStar, tFmtS, tFmtI, tM0, tJs, tM1, rNewStrs, tMatch, setAll, lit_to, lit_page, lit_section, lit_gone, lit_exact, lit_open, tSeq, tAsg, tIfS, tRet, tRetN, tDrop, tNext, tNever, tOr, tAnd, tNot, tB, tTest, tCB, tCons, tVar, tC, tNil, tOp, tUn, tIf, tAndV, tOrV, tNotV, tChain, tTup, tLst, tCallR, tMethN, tMakeN, tPropN, tYes, gName, cx_K, cx_P, cx_w, rI0, rI, rEq, rNe, List.getElem?_cons_zero, List.getElem?_cons_succ, List.set_cons_zero, List.set_cons_succ, Option.some.injEq, exists_eq_left', exists_eq_left, V.bl.injEq, V.int.injEq, V.str.injEq, V.ref.injEq, List.cons.injEq, and_true, true_and, exists_and_left, and_assoc, List.append_nil]
        rw [lw lx_put]
        refine ⟨scal_W, ?_⟩
        rw [dec_W, decide_eq_false (show ¬ sMove = sPut by decide)]
        exact r _ (Same.refl _)
      refine if_yes (fun R r => ?_) fun H4 s4 => ?_
      · simp only [tSl, tPart, tNoPart, tCKw, tVals, gStar, gCons, gNil, StX.tStar, tFmtS, tFmtI, tM0, tJs, tM1, rNewStrs, tMatch, setAll, lit_to, lit_page, lit_section, lit_gone, lit_exact, lit_open, tSeq, tAsg, tIfS, tRet, tRetN, tDrop, tNext, tNever, tOr, tAnd, tNot, tB, tTest, tCB, tCons, tVar, tC, tNil, tOp, tUn, tIf, tAndV, tOrV, tNotV, tChain, tTup, tLst, tCallR, tMethN, tMakeN, tPropN, tYes, gName, cx_K, cx_P, cx_w, rI0, rI, rEq, rNe, List.getElem?_cons_zero, List.getElem?_cons_succ, List.set_cons_zero, List.set_cons_succ, Option.some.injEq, exists_eq_left', exists_eq_left, V.bl.injEq, V.int.injEq, V.str.injEq, V.ref.injEq, List.cons.injEq, and_true, true_and, exists_and_left, and_assoc, List.append_nil]
        rw [lw lx_move]
        refine ⟨scal_W, ?_⟩
        rw [dec_W, decide_eq_true (show sMove = sMove from rfl)]
        exact r _ (Same.refl _)
      have sA := (((s1.trans s2).trans s3).trans s4)
      simp only [tSl, tPart, tNoPart, tCKw, tVals, gStar, gCons, gNil, StX.tStar, tFmtS, tFmtI, tM0, tJs, tM1, rNewStrs, tMatch, setAll, lit_to, lit_page, lit_section, lit_gone, lit_exact, lit_open, tSeq, tAsg, tIfS, tRet, tRetN, tDrop, tNext, tNever, tOr, tAnd, tNot, tB, tTest, tCB, tCons, tVar, tC, tNil, tOp, tUn, tIf, tAndV, tOrV, tNotV, tChain, tTup, tLst, tCallR, tMethN, tMakeN, tPropN, tYes, gName, cx_K, cx_P, cx_w, rI0, rI, rEq, rNe, List.getElem?_cons_zero, List.getElem?_cons_succ, List.set_cons_zero, List.set_cons_succ, Option.some.injEq, exists_eq_left', exists_eq_left, V.bl.injEq, V.int.injEq, V.str.injEq, V.ref.injEq, List.cons.injEq, and_true, true_and, exists_and_left, and_assoc, List.append_nil]
      exact ⟨dx, _, sA _ _ ea, rfl, ixT_at (i := 4) (sA.sqt q) rfl ⟨_, _, _, _, rfl, a, st, p, d, so, n, pl, rfl, rfl, rfl, hu.mono sA, S.mono sA, W, C, k.same sA⟩⟩
    | bring =>
      refine seq_cut (Src := fun σ H1 => Same H H1 ∧ σ = [some (.ref a), some (.ref t), some (.int (d : Int)), some (vW sBring), some (vW (sortN so)), some (vW n)]) (fun R rr => ?_) ?_
      · simp only [tSl, tPart, tNoPart, tCKw, tVals, gStar, gCons, gNil, StX.tStar, tFmtS, tFmtI, tM0, tJs, tM1, rNewStrs, tMatch, setAll, lit_to, lit_page, lit_section, lit_gone, lit_exact, lit_open, tSeq, tAsg, tIfS, tRet, tRetN, tDrop, tNext, tNever, tOr, tAnd, tNot, tB, tTest, tCB, tCons, tVar, tC, tNil, tOp, tUn, tIf, tAndV, tOrV, tNotV, tChain, tTup, tLst, tCallR, tMethN, tMakeN, tPropN, tYes, gName, cx_K, cx_P, cx_w, rI0, rI, rEq, rNe, List.getElem?_cons_zero, List.getElem?_cons_succ, List.set_cons_zero, List.set_cons_succ, Option.some.injEq, exists_eq_left', exists_eq_left, V.bl.injEq, V.int.injEq, V.str.injEq, V.ref.injEq, List.cons.injEq, and_true, true_and, exists_and_left, and_assoc, List.append_nil, rSlA, gTup, gCons, gNil]
        exact ⟨_, q, (fun z => absurd z (show ¬ (HT.sIx 5 0 none = 0 ∧ HT.sIx 5 5 (some 4) = 5) by decide)), fun _ l hl => ⟨_, .inl (.inl upd_same), rfl, _, _, rfl, _, _, rfl, _, _, rfl, _, _, rfl, rfl, rr _ _ ⟨(Same.refl _).nw hl, rfl⟩⟩⟩
      rintro _ H1 ⟨s1, rfl⟩
      refine if_no (fun R r => ?_) fun H2 s2 => ?_
      · simp only [tSl, tPart, tNoPart, tCKw, tVals, gStar, gCons, gNil, StX.tStar, tFmtS, tFmtI, tM0, tJs, tM1, rNewStrs, tMatch, setAll, lit_to, lit_page, lit_section, lit_gone, lit_exact, lit_open, tSeq, tAsg, tIfS, tRet, tRetN, tDrop, tNext, tNever, tOr, tAnd, tNot, tB, tTest, tCB, tCons, tVar, tC, tNil, tOp, tUn, tIf, tAndV, tOrV, tNotV, tChain, tTup, tLst, tCallR, tMethN, tMakeN, tPropN, tYes, gName, cx_K, cx_P, cx_w, rI0, rI, rEq, rNe, List.getElem?_cons_zero, List.getElem?_cons_succ, List.set_cons_zero, List.set_cons_succ, Option.some.injEq, exists_eq_left', exists_eq_left, V.bl.injEq, V.int.injEq, V.str.injEq, V.ref.injEq, List.cons.injEq, and_true, true_and, exists_and_left, and_assoc, List.append_nil]
        rw [lw lx_put]
        refine ⟨scal_W, ?_⟩
        rw [dec_W, decide_eq_false (show ¬ sBring = sPut by decide)]
        exact iteF (r _ (Same.refl _))
      refine if_no (fun R r => ?_) fun H3 s3 => ?_
      · simp only [tSl, tPart, tNoPart, tCKw, tVals, gStar, gCons, gNil, StX.tStar, tFmtS, tFmtI, tM0, tJs, tM1, rNewStrs, tMatch, setAll, lit_to, lit_page, lit_section, lit_gone, lit_exact, lit_open, tSeq, tAsg, tIfS, tRet, tRetN, tDrop, tNext, tNever, tOr, tAnd, tNot, tB, tTest, tCB, tCons, tVar, tC, tNil, tOp, tUn, tIf, tAndV, tOrV, tNotV, tChain, tTup, tLst, tCallR, tMethN, tMakeN, tPropN, tYes, gName, cx_K, cx_P, cx_w, rI0, rI, rEq, rNe, List.getElem?_cons_zero, List.getElem?_cons_succ, List.set_cons_zero, List.set_cons_succ, Option.some.injEq, exists_eq_left', exists_eq_left, V.bl.injEq, V.int.injEq, V.str.injEq, V.ref.injEq, List.cons.injEq, and_true, true_and, exists_and_left, and_assoc, List.append_nil]
        rw [lw lx_put]
        refine ⟨scal_W, ?_⟩
        rw [dec_W, decide_eq_false (show ¬ sBring = sPut by decide)]
        exact r _ (Same.refl _)
      refine if_no (fun R r => ?_) fun H4 s4 => ?_
      · simp only [tSl, tPart, tNoPart, tCKw, tVals, gStar, gCons, gNil, StX.tStar, tFmtS, tFmtI, tM0, tJs, tM1, rNewStrs, tMatch, setAll, lit_to, lit_page, lit_section, lit_gone, lit_exact, lit_open, tSeq, tAsg, tIfS, tRet, tRetN, tDrop, tNext, tNever, tOr, tAnd, tNot, tB, tTest, tCB, tCons, tVar, tC, tNil, tOp, tUn, tIf, tAndV, tOrV, tNotV, tChain, tTup, tLst, tCallR, tMethN, tMakeN, tPropN, tYes, gName, cx_K, cx_P, cx_w, rI0, rI, rEq, rNe, List.getElem?_cons_zero, List.getElem?_cons_succ, List.set_cons_zero, List.set_cons_succ, Option.some.injEq, exists_eq_left', exists_eq_left, V.bl.injEq, V.int.injEq, V.str.injEq, V.ref.injEq, List.cons.injEq, and_true, true_and, exists_and_left, and_assoc, List.append_nil]
        rw [lw lx_move]
        refine ⟨scal_W, ?_⟩
        rw [dec_W, decide_eq_false (show ¬ sBring = sMove by decide)]
        exact r _ (Same.refl _)
      refine if_yes (fun R r => ?_) fun H5 s5 => ?_
      · simp only [tSl, tPart, tNoPart, tCKw, tVals, gStar, gCons, gNil, StX.tStar, tFmtS, tFmtI, tM0, tJs, tM1, rNewStrs, tMatch, setAll, lit_to, lit_page, lit_section, lit_gone, lit_exact, lit_open, tSeq, tAsg, tIfS, tRet, tRetN, tDrop, tNext, tNever, tOr, tAnd, tNot, tB, tTest, tCB, tCons, tVar, tC, tNil, tOp, tUn, tIf, tAndV, tOrV, tNotV, tChain, tTup, tLst, tCallR, tMethN, tMakeN, tPropN, tYes, gName, cx_K, cx_P, cx_w, rI0, rI, rEq, rNe, List.getElem?_cons_zero, List.getElem?_cons_succ, List.set_cons_zero, List.set_cons_succ, Option.some.injEq, exists_eq_left', exists_eq_left, V.bl.injEq, V.int.injEq, V.str.injEq, V.ref.injEq, List.cons.injEq, and_true, true_and, exists_and_left, and_assoc, List.append_nil]
        rw [lw lx_bring]
        refine ⟨scal_W, ?_⟩
        rw [dec_W, decide_eq_true (show sBring = sBring from rfl)]
        exact r _ (Same.refl _)
      have sA := ((((s1.trans s2).trans s3).trans s4).trans s5)
      simp only [tSl, tPart, tNoPart, tCKw, tVals, gStar, gCons, gNil, StX.tStar, tFmtS, tFmtI, tM0, tJs, tM1, rNewStrs, tMatch, setAll, lit_to, lit_page, lit_section, lit_gone, lit_exact, lit_open, tSeq, tAsg, tIfS, tRet, tRetN, tDrop, tNext, tNever, tOr, tAnd, tNot, tB, tTest, tCB, tCons, tVar, tC, tNil, tOp, tUn, tIf, tAndV, tOrV, tNotV, tChain, tTup, tLst, tCallR, tMethN, tMakeN, tPropN, tYes, gName, cx_K, cx_P, cx_w, rI0, rI, rEq, rNe, List.getElem?_cons_zero, List.getElem?_cons_succ, List.set_cons_zero, List.set_cons_succ, Option.some.injEq, exists_eq_left', exists_eq_left, V.bl.injEq, V.int.injEq, V.str.injEq, V.ref.injEq, List.cons.injEq, and_true, true_and, exists_and_left, and_assoc, List.append_nil]
      exact ⟨dx, _, sA _ _ ea, rfl, ixT_at (i := 4) (sA.sqt q) rfl ⟨_, _, _, _, rfl, a, st, p, d, so, n, pl, rfl, rfl, rfl, hu.mono sA, S.mono sA, W, C, k.same sA⟩⟩
abbrev N_law_site : List Str := ["_law_events", "_law_found", "_law_event"]
theorem sc_law_site : FnScope N_law_site ["_law_events"] (defScope s_law_site) := ⟨rfl, rfl, rfl, by decide +kernel, rfl, by decide +kernel, by decide +kernel⟩
theorem st_law_site (x0 : V) : L2.start N_law_site [x0] = [some x0, none, none] := rfl
def p_law_site : V → Hp → VK → Prop := fun v H Q => ∃ (q : Addr) (xs : List V) (es : List Ev), v = .ref q ∧ H q = some (.lst xs) ∧ Paired (EvAt K H) xs es ∧ CanAll SS.nil es ∧ ∀ a p H', Same H H' → H a = none → (∀ b ∈ p.all, H b = none) → SiteAt K H' a (SS.nil.doAll es) p → Q (.ref a) H'
theorem ok_law_site (L : Lw K mg) : FN P w K mg base 7 a_law_site (sp1 (p_law_site (K := K))) := by
  obtain ⟨fd, F⟩ := L.law_site
  refine fn_any F sc_law_site (len1 rfl) (fun _ _ _ _ _ _ us hl => match us, hl with | [_], _ => rfl) fun cdv A outer s H vs Q E hr h => ?_
  obtain ⟨_, rfl, q, xs, es, rfl, eq, hx, C, k⟩ := h
  have nd := sc_law_site.nd
  refine ⟨_, (pss_cons (ps_set (i := 1) nd rfl (Or.inl rfl) (pe_mk0 L.mk_Site (ok_Site_init L) (hr.mono (by decide)) rfl L.g_Site)) (pss_cons (ps_for PassesOwn.never rfl (pi_list (pv 0)) (pg_name (i := 2) nd rfl (Or.inl rfl)) (pss_one (ps_expr (pe_g (ok_law_happen L) (hr.mono (by decide)) rfl L.g_law_happen L.law_happen.kp (pa_cons (pv 1) (pa_cons (pv 2) pa_nil)))))) (pss_one (ps_ret (pv 1))))), ?_⟩
  simp only [tSl, tPart, tNoPart, tCKw, tVals, gStar, gCons, gNil, StX.tStar, tFmtS, tFmtI, tM0, tJs, tM1, rNewStrs, tMatch, setAll, lit_to, lit_page, lit_section, lit_gone, lit_exact, lit_open, tAsg, tRet, tRetN, tDrop, tNext, tNever, tNot, tB, tTest, tCB, tCons, tVar, tC, tNil, tOp, tUn, tAndV, tOrV, tNotV, tChain, tTup, tLst, tCallR, tMethN, tMakeN, tPropN, tYes, gName, cx_K, cx_P, cx_w, rI0, rI, rEq, rNe, List.getElem?_cons_zero, List.getElem?_cons_succ, List.set_cons_zero, List.set_cons_succ, Option.some.injEq, exists_eq_left', exists_eq_left, V.bl.injEq, V.int.injEq, V.str.injEq, V.ref.injEq, List.cons.injEq, and_true, true_and, exists_and_left, and_assoc, List.append_nil, st_law_site]
  simp only [tSl, tPart, tNoPart, tCKw, tVals, gStar, gCons, gNil, StX.tStar, tFmtS, tFmtI, tM0, tJs, tM1, rNewStrs, tMatch, setAll, lit_to, lit_page, lit_section, lit_gone, lit_exact, lit_open, tSeq, tAsg, tIfS, tRet, tRetN, tDrop, tNext, tNever, tOr, tAnd, tNot, tB, tTest, tCB, tCons, tVar, tC, tNil, tOp, tUn, tIf, tAndV, tOrV, tNotV, tChain, tTup, tLst, tCallR, tMethN, tMakeN, tPropN, tYes, gName, cx_K, cx_P, cx_w, rI0, rI, rEq, rNe, List.getElem?_cons_zero, List.getElem?_cons_succ, List.set_cons_zero, List.set_cons_succ, Option.some.injEq, exists_eq_left', exists_eq_left, V.bl.injEq, V.int.injEq, V.str.injEq, V.ref.injEq, List.cons.injEq, and_true, true_and, exists_and_left, and_assoc, List.append_nil]
  intro a dx ha hdx hne
  have s2 := ((Same.refl H).nw (o := .own a) hdx).nw (o := .ins a_Site dx []) ((upd_ne hne.symm).trans ha)
  refine ⟨_, rfl, a, dx, rfl, upd_same, fun H2 p sb2 hp0 S => ⟨rfl, ?_⟩⟩
  have s3 : Same H H2 := fun b o e => sb2 b o (ne_of_none e ha) (s2 b o e)
  have hp0 : ∀ b ∈ p.all, H b = none := fun b hb => s2.free (hp0 b hb)
  have nq : q ∉ p.all := fun z => by
    have := hp0 q z
    rw [eq] at this
    cases this
  have hn := Paired.length hx
  refine tFor_w (walk_list (a := q) (xs := xs)) (fun R r => ⟨_, rfl, q, rfl, ⟨_, SqL.of (s3 _ _ eq)⟩, r⟩) (fun i σ H' => (∃ x, σ = [some (.ref q), some (.ref a), x]) ∧ ∃ p', KeepF p H2 H' ∧ SubF p p' H2 ∧ SiteAt K H' a (SS.nil.doAll (es.take i)) p')
    ⟨⟨_, rfl⟩, p, KeepF.refl _ _, SubF.refl _ _, S⟩ (fun i σ H' _ z => let ⟨_, p', k1, _, _⟩ := z; SqL.of (k1 _ _ nq (s3 _ _ eq))) ?_ ?_
  · rintro i x σ H4 H5 hi ⟨⟨u, rfl⟩, p', k1, k2, S5⟩ ⟨rfl, hxi⟩
    obtain ⟨e, he, hea⟩ := paired_get hx hxi
    obtain ⟨hw, hc⟩ := C.at he
    have s5 : Same H H5 := fun b o z => k1 b o (fun m => by have := hp0 b m; rw [z] at this; cases this) (s3 b o z)
    simp only [tSl, tPart, tNoPart, tCKw, tVals, gStar, gCons, gNil, StX.tStar, tFmtS, tFmtI, tM0, tJs, tM1, rNewStrs, tMatch, setAll, lit_to, lit_page, lit_section, lit_gone, lit_exact, lit_open, tSeq, tAsg, tIfS, tRet, tRetN, tDrop, tNext, tNever, tOr, tAnd, tNot, tB, tTest, tCB, tCons, tVar, tC, tNil, tOp, tUn, tIf, tAndV, tOrV, tNotV, tChain, tTup, tLst, tCallR, tMethN, tMakeN, tPropN, tYes, gName, cx_K, cx_P, cx_w, rI0, rI, rEq, rNe, List.getElem?_cons_zero, List.getElem?_cons_succ, List.set_cons_zero, List.set_cons_succ, Option.some.injEq, exists_eq_left', exists_eq_left, V.bl.injEq, V.int.injEq, V.str.injEq, V.ref.injEq, List.cons.injEq, and_true, true_and, exists_and_left, and_assoc, List.append_nil]
    exact ⟨_, _, rfl, a, _, p', e, rfl, hea.kt s5.kt, S5, hw, hc, fun H6 p6 k3 k4 S6 => ⟨⟨_, rfl⟩, k1.trans k2 k3, p6, k2.trans k1 k4, by rw [doAll_take he]; exact S6⟩⟩
  · rintro σ H4 ⟨⟨u, rfl⟩, p', k1, k2, S5⟩
    rw [hn, List.take_length] at S5
    simp only [tSl, tPart, tNoPart, tCKw, tVals, gStar, gCons, gNil, StX.tStar, tFmtS, tFmtI, tM0, tJs, tM1, rNewStrs, tMatch, setAll, lit_to, lit_page, lit_section, lit_gone, lit_exact, lit_open, tSeq, tAsg, tIfS, tRet, tRetN, tDrop, tNext, tNever, tOr, tAnd, tNot, tB, tTest, tCB, tCons, tVar, tC, tNil, tOp, tUn, tIf, tAndV, tOrV, tNotV, tChain, tTup, tLst, tCallR, tMethN, tMakeN, tPropN, tYes, gName, cx_K, cx_P, cx_w, rI0, rI, rEq, rNe, List.getElem?_cons_zero, List.getElem?_cons_succ, List.set_cons_zero, List.set_cons_succ, Option.some.injEq, exists_eq_left', exists_eq_left, V.bl.injEq, V.int.injEq, V.str.injEq, V.ref.injEq, List.cons.injEq, and_true, true_and, exists_and_left, and_assoc, List.append_nil]
    exact k a p' H4 (fun b o z => k1 b o (fun m => by have := hp0 b m; rw [z] at this; cases this) (s3 b o z)) ha (fun b hb => (k2 b hb).elim (fun z => hp0 b z) fun z => s3.free z) S5
abbrev N_law_tables : List Str := ["_law_well_here", "_law_most", "_law_found", "_law_day", "_law_turn"]
theorem sc_law_tables : FnScope N_law_tables ["_law_well_here", "_law_most"] (defScope s_law_tables) := ⟨rfl, rfl, rfl, by decide +kernel, rfl, by decide +kernel, by decide +kernel⟩
theorem st_law_tables (x0 x1 : V) : L2.start N_law_tables [x0, x1] = [some x0, some x1, none, none, none] := rfl
/-- the lines of a history of a server -/
def LnsAt (K : PySem.W.Frag) (H : Hp) (D : Addr) (xs : List V) (hs : Hs) : Prop := Paired (fun v (h : Nat × List Ru) => ∃ t q ys, v = .ref t ∧ SqT K H t [.int (h.1 : Int), .ref q] ∧ H q = some (.lst ys) ∧ RusAt K H ys h.2 ∧ q ≠ D) xs hs
theorem LnsAt.mono {H H' : Hp} {D : Addr} {xs : List V} {hs : Hs} (h : LnsAt K H D xs hs) (s : Same H H') : LnsAt K H' D xs hs := paired_imp h fun _ _ ⟨t, q, ys, e, a, b, c, n⟩ => ⟨t, q, ys, e, s.sqt a, s _ _ b, c.kt s.kt, n⟩
theorem LnsAt.sb {H H' : Hp} {l D : Addr} {xs : List V} {hs : Hs} (h : LnsAt K H D xs hs) (hw : WlAt H l) (s : SameB l H H') : LnsAt K H' D xs hs := by
  have kt : KeepT H H' := by
    obtain ⟨_, _, z, _⟩ := hw
    exact s.kt z trivial
  exact paired_imp h fun _ _ ⟨t, q, ys, e, a, b, c, n⟩ => ⟨t, q, ys, e, sqt_kt kt a, s _ _ (hw.ne b fun _ z => nomatch z) b, c.kt kt, n⟩
theorem LnsAt.updD {H : Hp} {D : Addr} {zs zs' : List V} {xs : List V} {hs : Hs} (h : LnsAt K H D xs hs) (e : H D = some (.lst zs)) : LnsAt K (upd H D (.lst zs')) D xs hs := by
  have kt : KeepT H (upd H D (.lst zs')) := (Same.refl H).kt.mut e trivial
  exact paired_imp h fun _ _ ⟨t, q, ys, e, a, b, c, n⟩ => ⟨t, q, ys, e, sqt_kt kt a, (upd_ne n).trans b, c.kt kt, n⟩
def p_law_tables : V → V → Hp → VK → Prop := fun v mv H Q => ∃ (l : Addr) (m : Nat), v = .ref l ∧ mv = .int (m : Int) ∧ m ≤ 10 ∧ WlAt H l ∧ ∀ p xs hs H', H' p = some (.lst xs) → LnsAt K H' p xs hs → OkHs hs → hs.length ≤ m → (∀ h ∈ hs, h.1 ≤ 500) → SameB l H H' → WlAt H' l → Q (.ref p) H'
theorem ok_law_tables (L : Lw K mg) : FN P w K mg base 6 a_law_tables (sp2 (p_law_tables (K := K))) := by
  obtain ⟨fd, F⟩ := L.law_tables
  refine fn_any F sc_law_tables (len2 rfl) (fun _ _ _ _ _ _ us hl => match us, hl with | [_, _], _ => rfl) fun cdv A outer s H vs Q E hr h => ?_
  obtain ⟨_, _, rfl, l, m, rfl, rfl, hm, hw, k⟩ := h
  have nd := sc_law_tables.nd
  refine ⟨_, (pss_cons (ps_par (i := 2) (j := 3) rfl nd rfl rfl (by decide) rfl rfl (pa_cons (pe_lst pa_nil) (pa_cons pe_int pa_nil)) (by rfl)) (pss_cons (ps_for PassesOwn.never rfl (pi_range1 rfl L.z_range (pa_cons (pe_g (ok_law_draw L) (hr.mono (by decide)) rfl L.g_law_draw L.law_draw.kp (pa_cons (pv 0) (pa_cons (pe_op op_add (pv 1) pe_int) pa_nil))) pa_nil)) (pg_name (i := 4) nd rfl (Or.inl rfl)) (pss_cons (ps_set (i := 3) nd rfl (Or.inl rfl) (pe_op op_add (pv 3) (pe_g (ok_law_choose L) (hr.mono (by decide)) rfl L.g_law_choose L.law_choose.kp (pa_cons (pv 0) (pa_cons (pe_lst (pa_cons pe_int (pa_cons pe_int (pa_cons pe_int (pa_cons pe_int pa_nil))))) pa_nil))))) (pss_one (ps_expr (pe_bm PySem.F.plainAttrs_list PySem.F.slot_list_append PySem.F.type_list_append mt_append (pv 2) (pa_cons (pe_tup (pa_cons (pv 3) (pa_cons (pe_g (ok_law_rules L) (hr.mono (by decide)) rfl L.g_law_rules L.law_rules.kp (pa_cons (pv 0) (pa_cons pe_int (pa_cons pe_int pa_nil)))) pa_nil))) pa_nil)))))) (pss_one (ps_ret (pv 2))))), ?_⟩
  simp only [tSl, tPart, tNoPart, tCKw, tVals, gStar, gCons, gNil, StX.tStar, tFmtS, tFmtI, tM0, tJs, tM1, rNewStrs, tMatch, setAll, lit_to, lit_page, lit_section, lit_gone, lit_exact, lit_open, tSeq, tAsg, tIfS, tRet, tRetN, tDrop, tNext, tNever, tOr, tAnd, tNot, tB, tTest, tCB, tCons, tVar, tC, tNil, tOp, tUn, tIf, tAndV, tOrV, tNotV, tChain, tTup, tLst, tCallR, tMethN, tMakeN, tPropN, tYes, gName, cx_K, cx_P, cx_w, rI0, rI, rEq, rNe, List.getElem?_cons_zero, List.getElem?_cons_succ, List.set_cons_zero, List.set_cons_succ, Option.some.injEq, exists_eq_left', exists_eq_left, V.bl.injEq, V.int.injEq, V.str.injEq, V.ref.injEq, List.cons.injEq, and_true, true_and, exists_and_left, and_assoc, List.append_nil, st_law_tables, tPar]
  refine ⟨szl rfl, fun D hD => ?_⟩
  have s0 := (SameB.refl l H).nw (o := .lst []) hD
  have w0 := hw.same ((Same.refl H).nw (o := .lst []) hD)
  refine tFor_cut (Src := fun J H1 => ∃ j, J = Itr 0 j ∧ j ≤ m ∧ SameB l (upd H D (.lst [])) H1 ∧ WlAt H1 l) (fun R r => ?_) ?_
  · simp only [tSl, tPart, tNoPart, tCKw, tVals, gStar, gCons, gNil, StX.tStar, tFmtS, tFmtI, tM0, tJs, tM1, rNewStrs, tMatch, setAll, lit_to, lit_page, lit_section, lit_gone, lit_exact, lit_open, tSeq, tAsg, tIfS, tRet, tRetN, tDrop, tNext, tNever, tOr, tAnd, tNot, tB, tTest, tCB, tCons, tVar, tC, tNil, tOp, tUn, tIf, tAndV, tOrV, tNotV, tChain, tTup, tLst, tCallR, tMethN, tMakeN, tPropN, tYes, gName, cx_K, cx_P, cx_w, rI0, rI, rEq, rNe, List.getElem?_cons_zero, List.getElem?_cons_succ, List.set_cons_zero, List.set_cons_succ, Option.some.injEq, exists_eq_left', exists_eq_left, V.bl.injEq, V.int.injEq, V.str.injEq, V.ref.injEq, List.cons.injEq, and_true, true_and, exists_and_left, and_assoc, List.append_nil, iRng1]
    refine ⟨_, _, rfl, l, m + 1, rfl, rfl, by omega, by omega, w0, fun j H1 hj s1 hw1 => ⟨j, rfl, by omega, by omega, r _ _ ⟨j, by rw [Int.toNat_natCast], by omega, s1, hw1⟩⟩⟩
  · rintro J H1 ⟨j, rfl, hj, s1, hw1⟩
    have nD : D ≠ l := fun z => by
      obtain ⟨_, _, q, _⟩ := hw
      rw [z, q] at hD
      cases hD
    refine tFor_w walk_range (fun R r => r) (fun i σ H' => ∃ (d : Nat) (x : Option V) (xs : List V) (hs : Hs), σ = [some (.ref l), some (.int (m : Int)), some (.ref D), some (.int (d : Int)), x] ∧ SameB l H H' ∧ WlAt H' l ∧ H' D = some (.lst xs) ∧ LnsAt K H' D xs hs ∧ OkHs hs ∧ hs.length ≤ i ∧ (∀ h ∈ hs, h.1 ≤ d ∧ h.1 ≤ 500) ∧ d ≤ 9 * i)
      ⟨0, _, [], [], rfl, s0.trans s1, hw1, s1 _ _ nD upd_same, .nil, ⟨(fun _ z => nomatch z), (fun _ z => nomatch z), .nil, Nat.zero_le _⟩, Nat.le_refl _, (fun _ z => nomatch z), Nat.le_refl _⟩ (fun _ _ _ _ _ => trivial) ?_ ?_
    · rintro i x σ H2 H3 hi ⟨d, u, xs, hs, rfl, s2, hw2, eD, hx, ok, hl, hd, hdi⟩ ⟨rfl, rfl⟩
      simp only [tSl, tPart, tNoPart, tCKw, tVals, gStar, gCons, gNil, StX.tStar, tFmtS, tFmtI, tM0, tJs, tM1, rNewStrs, tMatch, setAll, lit_to, lit_page, lit_section, lit_gone, lit_exact, lit_open, tSeq, tAsg, tIfS, tRet, tRetN, tDrop, tNext, tNever, tOr, tAnd, tNot, tB, tTest, tCB, tCons, tVar, tC, tNil, tOp, tUn, tIf, tAndV, tOrV, tNotV, tChain, tTup, tLst, tCallR, tMethN, tMakeN, tPropN, tYes, gName, cx_K, cx_P, cx_w, rI0, rI, rEq, rNe, List.getElem?_cons_zero, List.getElem?_cons_succ, List.set_cons_zero, List.set_cons_succ, Option.some.injEq, exists_eq_left', exists_eq_left, V.bl.injEq, V.int.injEq, V.str.injEq, V.ref.injEq, List.cons.injEq, and_true, true_and, exists_and_left, and_assoc, List.append_nil, tBM, rAppend]
      refine ⟨szl rfl, fun p hp => ⟨_, _, rfl, l, p, _, rfl, rfl, hw2.same ((Same.refl _).nw hp), upd_same, List.cons_ne_nil _ _, by decide, fun y H4 hy s4 hw4 => ?_⟩⟩
      obtain ⟨c, hc1, hc9, rfl⟩ : ∃ c : Nat, 1 ≤ c ∧ c ≤ 9 ∧ y = .int (c : Int) := by
        simp only [List.mem_cons, List.not_mem_nil, or_false] at hy
        rcases hy with rfl | rfl | rfl | rfl
        · exact ⟨1, by decide, by decide, rfl⟩
        · exact ⟨1, by decide, by decide, rfl⟩
        · exact ⟨2, by decide, by decide, rfl⟩
        · exact ⟨9, by decide, by decide, rfl⟩
      have t3 := (Same.refl H3).nw (o := .lst [.int 1, .int 1, .int 2, .int 9]) hp
      have eD4 := s4 _ _ nD (t3 _ _ eD)
      have hx4 := (hx.mono t3).sb (hw2.same t3) s4
      have s5 := (s2.nw (o := .lst [.int 1, .int 1, .int 2, .int 9]) hp).trans s4
      refine ⟨_, rfl, tyL eD4, _, _, _, rfl, l, 4, 2, rfl, rfl, rfl, by decide, by decide, hw4, fun q ys rs H5 hq eq hrs okr hrl s6 hw6 => ⟨szl rfl, fun t ht => ?_⟩⟩
      have eD5 := s6 _ _ nD eD4
      have nqD : q ≠ D := fun z => by
        rw [z, eD4] at hq
        cases hq
      have hx5 := hx4.sb hw4 s6
      have t7 := (Same.refl H5).nw (o := .tup [.int ((d : Int) + (c : Int)), .ref q]) ht
      have s8 := ((s5.trans s6).nw (o := .tup [.int ((d : Int) + (c : Int)), .ref q]) ht)
      have et := upd_same (H := H5) (a := t) (o := .tup [.int ((d : Int) + (c : Int)), .ref q])
      have eD7 := t7 _ _ eD5
      have hx7 := hx5.mono t7
      have eq7 := t7 _ _ eq
      have hr7 := hrs.kt t7.kt
      have w7 := hw6.same t7
      generalize upd H5 t (.tup [.int ((d : Int) + (c : Int)), .ref q]) = H7 at *
      have hxl := Paired.length hx
      refine ⟨xs, eD7, Nat.lt_of_lt_of_le (show xs.length < 1000 by omega) (by decide), d + c, by omega, s8.mt hD, w7.upd nD, _, upd_same, hs ++ [(d + c, rs)], ?_, ⟨?_, ?_, ?_, ?_⟩, ?_, ?_, by omega⟩
      · have z : LnsAt K H7 D (xs ++ [.ref t]) (hs ++ [(d + c, rs)]) := paired_snoc ⟨t, q, ys, rfl, .inl (.inl (by rw [et]; rfl)), eq7, hr7, nqD⟩ hx7
        exact z.updD eD7
      · intro h hh
        rcases List.mem_append.mp hh with hh | hh
        · exact ok.ok h hh
        · rw [List.mem_singleton.mp hh]
          exact okr
      · intro h hh
        rcases List.mem_append.mp hh with hh | hh
        · exact ok.dy h hh
        · rw [List.mem_singleton.mp hh]
          show d + c ≤ _
          omega
      · rw [List.map_append]
        refine List.pairwise_append.mpr ⟨ok.asc, List.pairwise_singleton _ _, fun a ha b hb => ?_⟩
        obtain ⟨h, hh, rfl⟩ := List.mem_map.mp ha
        rw [List.mem_singleton.mp hb]
        have := (hd h hh).1
        show h.1 < d + c
        omega
      · rw [List.length_append]
        show hs.length + 1 ≤ 20
        omega
      · rw [List.length_append]
        show hs.length + 1 ≤ i + 1
        omega
      · intro h hh
        rcases List.mem_append.mp hh with hh | hh
        · have := hd h hh
          omega
        · rw [List.mem_singleton.mp hh]
          show d + c ≤ d + c ∧ d + c ≤ 500
          omega
    · rintro σ H2 ⟨d, u, xs, hs, rfl, s2, hw2, eD, hx, ok, hl, hd, hdi⟩
      simp only [tSl, tPart, tNoPart, tCKw, tVals, gStar, gCons, gNil, StX.tStar, tFmtS, tFmtI, tM0, tJs, tM1, rNewStrs, tMatch, setAll, lit_to, lit_page, lit_section, lit_gone, lit_exact, lit_open, tSeq, tAsg, tIfS, tRet, tRetN, tDrop, tNext, tNever, tOr, tAnd, tNot, tB, tTest, tCB, tCons, tVar, tC, tNil, tOp, tUn, tIf, tAndV, tOrV, tNotV, tChain, tTup, tLst, tCallR, tMethN, tMakeN, tPropN, tYes, gName, cx_K, cx_P, cx_w, rI0, rI, rEq, rNe, List.getElem?_cons_zero, List.getElem?_cons_succ, List.set_cons_zero, List.set_cons_succ, Option.some.injEq, exists_eq_left', exists_eq_left, V.bl.injEq, V.int.injEq, V.str.injEq, V.ref.injEq, List.cons.injEq, and_true, true_and, exists_and_left, and_assoc, List.append_nil]
      exact k D xs hs H2 eD hx ok (by omega) (fun h hh => (hd h hh).2) s2 hw2
abbrev N_law_server : List Str := ["_law_lines", "_law_found", "_law_day", "_law_rules_here"]
theorem sc_law_server : FnScope N_law_server ["_law_lines"] (defScope s_law_server) := ⟨rfl, rfl, rfl, by decide +kernel, rfl, by decide +kernel, by decide +kernel⟩
theorem st_law_server (x0 : V) : L2.start N_law_server [x0] = [some x0, none, none, none] := rfl
theorem asc_take0 {hs : Hs} {i : Nat} {h : Nat × List Ru} (a : (hs.map (·.1)).Pairwise (· < ·)) (e : hs[i]? = some h) : ∀ x ∈ hs.take i, x.1 < h.1 := fun x hx => asc_take a e (srt x) (List.mem_map_of_mem hx)
def p_law_server : V → Hp → VK → Prop := fun v H Q => ∃ (q D : Addr) (xs : List V) (hs : Hs), v = .ref q ∧ H q = some (.lst xs) ∧ LnsAt K H D xs hs ∧ OkHs hs ∧ ∀ a H', Same H H' → H a = none → SvAt P w K H' a hs → Q (.ref a) H'
theorem ok_law_server (L : Lw K mg) : FN P w K mg base 9 a_law_server (sp1 (p_law_server (P := P) (w := w) (K := K))) := by
  obtain ⟨fd, F⟩ := L.law_server
  refine fn_any F sc_law_server (len1 rfl) (fun _ _ _ _ _ _ us hl => match us, hl with | [_], _ => rfl) fun cdv A outer s H vs Q E hr h => ?_
  obtain ⟨_, rfl, q, D, xs, hs, rfl, eq, hx, ok, k⟩ := h
  have nd := sc_law_server.nd
  refine ⟨_, (pss_cons (ps_set (i := 1) nd rfl (Or.inl rfl) (pe_mk0 L.mk_Server (ok_Server_init L) (hr.mono (by decide)) rfl L.g_Server)) (pss_cons (ps_for PassesOwn.never rfl (pi_list (pv 0)) (pg_tup rfl (pgs_cons (pg_name (i := 2) nd rfl (Or.inl rfl)) (pgs_cons (pg_name (i := 3) nd rfl (Or.inl rfl)) pgs_nil))) (pss_one (ps_expr (pe_m (pv 1) L.c_Server L.m_Server_set_table (ok_Server_set_table L) (hr.mono (by decide)) (pa_cons (pv 2) (pa_cons (pe_mk L.mk_Table (ok_Table_init L) (hr.mono (by decide)) rfl L.g_Table (pa_cons (pv 3) pa_nil)) pa_nil)))))) (pss_one (ps_ret (pv 1))))), ?_⟩
  simp only [tSl, tPart, tNoPart, tCKw, tVals, gStar, gCons, gNil, StX.tStar, tFmtS, tFmtI, tM0, tJs, tM1, rNewStrs, tMatch, setAll, lit_to, lit_page, lit_section, lit_gone, lit_exact, lit_open, tSeq, tAsg, tIfS, tRet, tRetN, tDrop, tNext, tNever, tOr, tAnd, tNot, tB, tTest, tCB, tCons, tVar, tC, tNil, tOp, tUn, tIf, tAndV, tOrV, tNotV, tChain, tTup, tLst, tCallR, tMethN, tMakeN, tPropN, tYes, gName, cx_K, cx_P, cx_w, rI0, rI, rEq, rNe, List.getElem?_cons_zero, List.getElem?_cons_succ, List.set_cons_zero, List.set_cons_succ, Option.some.injEq, exists_eq_left', exists_eq_left, V.bl.injEq, V.int.injEq, V.str.injEq, V.ref.injEq, List.cons.injEq, and_true, true_and, exists_and_left, and_assoc, List.append_nil, st_law_server]
  intro a dx ha hdx hne
  have s2 := ((Same.refl H).nw (o := .own a) hdx).nw (o := .ins a_Server dx []) ((upd_ne hne.symm).trans ha)
  refine ⟨_, rfl, a, dx, rfl, upd_same, fun H2 sb2 hv => ⟨rfl, ?_⟩⟩
  have s3 : Same H H2 := fun b o e => sb2 b o (ne_of_none e ha) (s2 b o e)
  have hxl := Paired.length hx
  have hk := ok.hi
  have na : ∀ {b : Addr} {o : HO}, H b = some o → b ≠ a := fun e => ne_of_none e ha
  refine tFor_w (walk_list (a := q) (xs := xs)) (fun R r => ⟨_, rfl, q, rfl, ⟨_, SqL.of (s3 _ _ eq)⟩, r⟩) (fun i σ H' => (∃ x y, σ = [some (.ref q), some (.ref a), x, y]) ∧ SameB a H2 H' ∧ SvAt P w K H' a (hs.take i))
    ⟨⟨_, _, rfl⟩, SameB.refl _ _, hv⟩ (fun i σ H' _ z => SqL.of (z.2.1 _ _ (na eq) (s3 _ _ eq))) ?_ ?_
  · rintro i x σ H4 H5 hi ⟨⟨u1, u2, rfl⟩, s5, hv5⟩ ⟨rfl, hxi⟩
    obtain ⟨h, hh, t, p, ys, rfl, qt, ep, hr0, _⟩ := paired_get hx hxi
    have sH : Same H H5 := fun b o e => s5 b o (na e) (s3 b o e)
    have hm := List.mem_of_getElem? hh
    have okr := ok.ok h hm
    obtain ⟨dx5, p5, t5, ts5, h51, h52⟩ := id hv5
    simp only [tSl, tPart, tNoPart, tCKw, tVals, gStar, gCons, gNil, StX.tStar, tFmtS, tFmtI, tM0, tJs, tM1, rNewStrs, tMatch, setAll, lit_to, lit_page, lit_section, lit_gone, lit_exact, lit_open, tSeq, tAsg, tIfS, tRet, tRetN, tDrop, tNext, tNever, tOr, tAnd, tNot, tB, tTest, tCB, tCons, tVar, tC, tNil, tOp, tUn, tIf, tAndV, tOrV, tNotV, tChain, tTup, tLst, tCallR, tMethN, tMakeN, tPropN, tYes, gName, cx_K, cx_P, cx_w, rI0, rI, rEq, rNe, List.getElem?_cons_zero, List.getElem?_cons_succ, List.set_cons_zero, List.set_cons_succ, Option.some.injEq, exists_eq_left', exists_eq_left, V.bl.injEq, V.int.injEq, V.str.injEq, V.ref.injEq, List.cons.injEq, and_true, true_and, exists_and_left, and_assoc, List.append_nil, gTup, gCons, gNil]
    refine ⟨_, sH.sqt qt, rfl, _, _, rfl, _, _, rfl, rfl, dx5, _, h51, rfl, ?_⟩
    intro b db hb hdb hnb
    have s6 := ((Same.refl H5).nw (o := .own b) hdb).nw (o := .ins a_Table db []) ((upd_ne hnb.symm).trans hb)
    refine ⟨_, _, rfl, b, db, p, ys, h.2, rfl, rfl, upd_same, .inl (SqL.of (s6 _ _ (sH _ _ ep))), paired_imp hr0 fun _ _ z => (z.mono sH).mono s6, okr, fun dd H6 sb6 e6 hd6 => ⟨rfl, ?_⟩⟩
    have s7 : Same H5 H6 := fun c o e => sb6 c o (ne_of_none e hb) (s6 c o e)
    exact ⟨_, _, _, rfl, a, _, h.1, h.2, rfl, rfl, hv5.mono s7, ⟨b, db, dd, rfl, e6, hd6⟩, ok.dy h hm, asc_take0 ok.asc hh, by rw [List.length_take]; omega, fun H7 s8 hv7 => ⟨⟨_, rfl⟩, (s5.trans (s7.sb a)).trans s8, by rw [List.take_add_one, hh]; exact SvX.at hv7⟩⟩
  · rintro σ H4 ⟨⟨u1, u2, rfl⟩, s5, hv5⟩
    rw [hxl, List.take_length] at hv5
    simp only [tSl, tPart, tNoPart, tCKw, tVals, gStar, gCons, gNil, StX.tStar, tFmtS, tFmtI, tM0, tJs, tM1, rNewStrs, tMatch, setAll, lit_to, lit_page, lit_section, lit_gone, lit_exact, lit_open, tSeq, tAsg, tIfS, tRet, tRetN, tDrop, tNext, tNever, tOr, tAnd, tNot, tB, tTest, tCB, tCons, tVar, tC, tNil, tOp, tUn, tIf, tAndV, tOrV, tNotV, tChain, tTup, tLst, tCallR, tMethN, tMakeN, tPropN, tYes, gName, cx_K, cx_P, cx_w, rI0, rI, rEq, rNe, List.getElem?_cons_zero, List.getElem?_cons_succ, List.set_cons_zero, List.set_cons_succ, Option.some.injEq, exists_eq_left', exists_eq_left, V.bl.injEq, V.int.injEq, V.str.injEq, V.ref.injEq, List.cons.injEq, and_true, true_and, exists_and_left, and_assoc, List.append_nil]
    exact k a H4 (fun b o e => s5 b o (na e) (s3 b o e)) ha hv5
end
end K88
set_option maxHeartbeats 4000000
/-! The text of a server, by the law. -/
namespace K88
open PySem PySem.Spec PyProof.Rows L2 LamX
theorem shaped_Rs {rs : List Ru} (ok : ∀ r ∈ rs, OkR r) : SeqAt.shaped (.list (rs.map dR)) = true := by
  have h0 : ∀ r, OkR r → (dR r).canLay0 = true ∧ (dR r).depth ≤ 60 := fun r ok => by
    have h1 := depth_An r.an
    refine ⟨?_, ?_⟩
    · show ((dW (sortOf r.ex)).canLay0 && ((dA r.at_).canLay0 && ((dAn r.an).canLay0 && true))) = true
      rw [lay_sort, lay_A ok.at_.ok, lay_An ok.an]
      rfl
    · show max 0 (max (dA r.at_).depth (max (dAn r.an).depth 0)) + 1 ≤ 60
      rw [depth_A]
      omega
  have h1 : ∀ rs : List Ru, (∀ r ∈ rs, OkR r) → PyData.canLayAll0 (rs.map dR) = true := fun rs ok => by
    induction rs with
    | nil => rfl
    | cons e es ih =>
      show ((dR e).canLay0 && PyData.canLayAll0 (es.map dR)) = true
      rw [(h0 _ (ok e (List.mem_cons_self ..))).1, ih fun x hx => ok x (List.mem_cons_of_mem _ hx)]
      rfl
  have h2 : ∀ rs : List Ru, (∀ r ∈ rs, OkR r) → PyData.depthAll (rs.map dR) ≤ 60 := fun rs ok => by
    induction rs with
    | nil => exact Nat.zero_le _
    | cons e es ih =>
      show max (dR e).depth (PyData.depthAll (es.map dR)) ≤ 60
      exact Nat.max_le.mpr ⟨(h0 _ (ok e (List.mem_cons_self ..))).2, ih fun x hx => ok x (List.mem_cons_of_mem _ hx)⟩
  refine Bool.and_eq_true_iff.mpr ⟨h1 rs ok, decide_eq_true ?_⟩
  have := h2 rs ok
  show PyData.depthAll (rs.map dR) + 1 ≤ 64
  omega
theorem rus_dp {K : PySem.W.Frag} {H : Hp} {xs : List V} {rs : List Ru} (h : RusAt K H xs rs) : DpAll K H xs (rs.map dR) := by
  unfold RusAt at h
  induction h with
  | nil => exact .nil
  | cons h _ ih => exact .cons h.dp ih
/-- blocks of lines -/
theorem joinL_blocks (sep : List Nat) : ∀ bs : List (List (List Nat)), (∀ b ∈ bs, b ≠ []) → TL.joinL sep (bs.map (TL.joinL sep)) = TL.joinL sep bs.flatten
  | [], _ => rfl
  | b :: bs, h => by
    have ih := joinL_blocks sep bs fun x hx => h x (List.mem_cons_of_mem _ hx)
    have hb := h b (List.mem_cons_self ..)
    cases bs with
    | nil =>
      show TL.joinL sep b = TL.joinL sep (b ++ [])
      rw [List.append_nil]
    | cons c cs =>
      have hc : c ≠ [] := h c (List.mem_cons_of_mem _ (List.mem_cons_self ..))
      show TL.joinL sep b ++ (sep ++ TL.joinL sep ((c :: cs).map (TL.joinL sep))) = TL.joinL sep (b ++ (c :: cs).flatten)
      rw [ih]
      have hne : (c :: cs).flatten ≠ [] := fun z => hc (List.append_eq_nil_iff.mp z).1
      generalize (c :: cs).flatten = ys at hne
      have app : ∀ b : List (List Nat), b ≠ [] → TL.joinL sep (b ++ ys) = TL.joinL sep b ++ (sep ++ TL.joinL sep ys) := fun b => by
        induction b with
        | nil => intro z; exact absurd rfl z
        | cons x b ih =>
          intro _
          cases b with
          | nil =>
            cases ys with
            | nil => exact absurd rfl hne
            | cons y ys => rfl
          | cons z b =>
            show x ++ (sep ++ TL.joinL sep ((z :: b) ++ ys)) = (x ++ (sep ++ TL.joinL sep (z :: b))) ++ _
            rw [ih (List.cons_ne_nil _ _), List.append_assoc, List.append_assoc]
      rw [app b hb]
/-- what the law puts down -/
def lnLH (h : Nat × List Ru) : List (List Nat) := (sDay ++ ([32] ++ dg h.1)) :: (if h.2 = [] then [] else [tTb (sortR h.2)])
def lnL (hs : Hs) : List (List Nat) := hs.flatMap lnLH
def blH (h : Nat × List Ru) : List (List (List Nat)) := [sDay ++ ([32] ++ dg h.1)] :: (if h.2 = [] then [] else [(sortR h.2).map tR])
theorem sortR_nil {rs : List Ru} : sortR rs = [] ↔ rs = [] := by
  have := (sortR_perm rs).length_eq
  constructor
  · intro e
    rw [e] at this
    exact List.eq_nil_of_length_eq_zero this.symm
  · intro e
    rw [e] at this ⊢
    exact List.eq_nil_of_length_eq_zero this
theorem lnL_join (hs : Hs) : tLn (lnL hs) = tSv hs := by
  have h1 : lnL hs = (hs.flatMap blH).map (TL.joinL [10]) := by
    unfold lnL
    rw [List.map_flatMap]
    refine congrArg (fun f => hs.flatMap f) (funext fun h => ?_)
    unfold lnLH blH
    split <;> rfl
  have h2 : (hs.flatMap blH).flatten = lnSv hs := by
    unfold lnSv
    induction hs with
    | nil => rfl
    | cons h hs ih =>
      rw [List.flatMap_cons, List.flatMap_cons, List.flatten_append]
      rw [ih]
      · congr 1
        unfold blH lnH
        split
        · rename_i e
          rw [sortR_nil.mpr e]
          rfl
        · show [sDay ++ ([32] ++ dg h.1)] ++ ((sortR h.2).map tR ++ []) = _
          rw [List.append_nil]
          rfl
      · unfold lnL
        rw [List.map_flatMap]
        refine congrArg (fun f => hs.flatMap f) (funext fun h => ?_)
        unfold lnLH blH
        split <;> rfl
  unfold tSv tLn
  rw [h1, joinL_blocks, h2]
  intro b hb
  obtain ⟨h, _, hb⟩ := List.mem_flatMap.mp hb
  unfold blH at hb
  split at hb
  · rw [List.mem_singleton.mp hb]
    exact List.cons_ne_nil _ _
  · rename_i n
    rcases List.mem_cons.mp hb with rfl | hb
    · exact List.cons_ne_nil _ _
    · rw [List.mem_singleton.mp hb]
      exact fun z => n (sortR_nil.mp (List.map_eq_nil_iff.mp z))
theorem _root_.LamX.ExtN.mt {H H' : Hp} {p : Addr} {o : HO} (s : ExtN H H') (h : H p = none) : ExtN H (upd H' p o) := fun b u e n => (upd_ne (ne_of_none e h)).trans (s b u e n)
theorem lnL_len : ∀ hs : Hs, (lnL hs).length ≤ hs.length * 2
  | [] => Nat.le_refl _
  | h :: hs => by
    have ih := lnL_len hs
    show (lnLH h ++ lnL hs).length ≤ (hs.length + 1) * 2
    have : (lnLH h).length ≤ 2 := by
      unfold lnLH
      split <;> simp
    rw [List.length_append]
    omega
theorem lnL_mem {hs : Hs} (ok : OkHs hs) : ∀ l ∈ lnL hs, l.length ≤ 5100 := fun l hl => by
  obtain ⟨h, hh, hl⟩ := List.mem_flatMap.mp hl
  have h7 := dg_len7 (n := h.1) (by have := ok.dy h hh; omega)
  have oks := (ok.ok h hh).sort
  unfold lnLH at hl
  rcases List.mem_cons.mp hl with rfl | hl
  · show (dg h.1).length + 1 + 1 + 1 + 1 ≤ 5100
    omega
  · split at hl
    · exact absurd hl List.not_mem_nil
    · rw [List.mem_singleton.mp hl]
      have h1 := joinL_len [10] 122 _ (rus_lens oks.ok)
      have h2 : ((sortR h.2).map tR).length * (122 + 1) ≤ 40 * 123 := Nat.mul_le_mul_right _ (by rw [List.length_map]; exact oks.hi)
      exact Nat.le_trans h1 (Nat.le_trans h2 (by decide))
section
variable {P : Program} {w : World} {K : PySem.W.Frag} {mg : Str → Option Value} {base : Heap}
theorem LnsAt.en {H H' : Hp} {D : Addr} {xs : List V} {hs : Hs} (h : LnsAt K H D xs hs) (s : ExtN H H') : LnsAt K H' D xs hs := paired_imp h fun _ _ ⟨t, q, ys, e, a, b, c, n⟩ => ⟨t, q, ys, e, sqt_kt s.kt a, s _ _ b (fun _ z => (nomatch z)), c.kt s.kt, n⟩
abbrev N_law_server_text : List Str := ["_law_lines", "_law_found", "_law_day", "_law_rules_here"]
theorem sc_law_server_text : FnScope N_law_server_text ["_law_lines"] (defScope s_law_server_text) := ⟨rfl, rfl, rfl, by decide +kernel, rfl, by decide +kernel, by decide +kernel⟩
theorem st_law_server_text (x0 : V) : L2.start N_law_server_text [x0] = [some x0, none, none, none] := rfl
def p_law_server_text (tP : Addr) : V → Hp → VK → Prop := fun v H Q => ∃ (q D : Addr) (xs : List V) (hs : Hs), v = .ref q ∧ H q = some (.lst xs) ∧ LnsAt K H D xs hs ∧ OkHs hs ∧ TabS H tP lamQ ∧ ∀ H', ExtN H H' → TabS H' tP lamQ → Q (.str (T (tSv hs))) H'
theorem ok_law_server_text {c tP : Addr} (L : Lw K mg) (LT : LamT K mg base a_law_table_text c tP) : FN P w K mg base 6 a_law_server_text (sp1 (p_law_server_text (K := K) tP)) := by
  obtain ⟨fd, F⟩ := L.law_server_text
  refine fn_any F sc_law_server_text (len1 rfl) (fun _ _ _ _ _ _ us hl => match us, hl with | [_], _ => rfl) fun cdv A outer s H vs Q E hr h => ?_
  obtain ⟨_, rfl, q, D, xs, hs, rfl, eq, hx, ok, tb, k⟩ := h
  have nd := sc_law_server_text.nd
  refine ⟨_, (pss_cons (ps_set (i := 1) nd rfl (Or.inl rfl) (pe_lst pa_nil)) (pss_cons (ps_for PassesOwn.never rfl (pi_list (pv 0)) (pg_tup rfl (pgs_cons (pg_name (i := 2) nd rfl (Or.inl rfl)) (pgs_cons (pg_name (i := 3) nd rfl (Or.inl rfl)) pgs_nil))) (pss_cons (ps_expr (pe_bm PySem.F.plainAttrs_list PySem.F.slot_list_append PySem.F.type_list_append mt_append (pv 1) (pa_cons (pe_op op_add_str pe_str (pe_callTy call_str_int (by rfl) L.z_str (by decide +kernel) (pa_cons (pv 2) pa_nil))) pa_nil))) (pss_one (ps_if (pt_cmpR (op_neD hr.units) (pv 3) (pe_lst pa_nil) (nomark _)) (pss_one (ps_expr (pe_bm PySem.F.plainAttrs_list PySem.F.slot_list_append PySem.F.type_list_append mt_append (pv 1) (pa_cons (pe_g (ok_law_table_text L LT) (hr.mono (by decide)) rfl L.g_law_table_text L.law_table_text.kp (pa_cons (pv 3) pa_nil)) pa_nil)))) pss_nil)))) (pss_one (ps_ret (pe_join pe_str (pv 1)))))), ?_⟩
  simp only [tSl, tPart, tNoPart, tCKw, tVals, gStar, gCons, gNil, StX.tStar, tFmtS, tFmtI, tM0, tJs, tM1, rNewStrs, tMatch, setAll, lit_to, lit_page, lit_section, lit_gone, lit_exact, lit_open, tSeq, tAsg, tIfS, tRet, tRetN, tDrop, tNext, tNever, tOr, tAnd, tNot, tB, tTest, tCB, tCons, tVar, tC, tNil, tOp, tUn, tIf, tAndV, tOrV, tNotV, tChain, tTup, tLst, tCallR, tMethN, tMakeN, tPropN, tYes, gName, cx_K, cx_P, cx_w, rI0, rI, rEq, rNe, List.getElem?_cons_zero, List.getElem?_cons_succ, List.set_cons_zero, List.set_cons_succ, Option.some.injEq, exists_eq_left', exists_eq_left, V.bl.injEq, V.int.injEq, V.str.injEq, V.ref.injEq, List.cons.injEq, and_true, true_and, exists_and_left, and_assoc, List.append_nil, st_law_server_text]
  refine ⟨szl rfl, fun l hl => ?_⟩
  have sl := (Same.refl H).nw (o := .lst []) hl
  have hxl := Paired.length hx
  have hk := ok.hi
  have nlt : ∀ (H' : Hp) {ys : List V}, H' l = some (.lst ys) → ∀ zs, TabS H' tP lamQ → TabS (upd H' l (.lst zs)) tP lamQ := fun H' ys e zs t => by
    obtain ⟨ps, h1, h2, h3⟩ := t
    refine ⟨ps, (upd_ne (fun z => by rw [z, e] at h1; cases h1)).trans h1, h2, fun pos cv hc => ?_⟩
    obtain ⟨c, e1, e2⟩ := h3 pos cv hc
    exact ⟨c, e1, (upd_ne (fun z => by rw [z, e] at e2; cases e2)).trans e2⟩
  refine tFor_w (walk_list (a := q) (xs := xs)) (fun R r => ⟨_, rfl, q, rfl, ⟨_, SqL.of (sl _ _ eq)⟩, r⟩) (fun i σ H' => (∃ x y, σ = [some (.ref q), some (.ref l), x, y]) ∧ ExtN H H' ∧ TabS H' tP lamQ ∧ H' l = some (.lst (((lnL (hs.take i)).map T).map V.str)))
    ⟨⟨_, _, rfl⟩, ExtN.of sl, tb.ext sl, upd_same⟩ (fun i σ H' _ z => SqL.of (z.2.1 _ _ eq (fun _ z => (nomatch z)))) ?_ ?_
  · rintro i x σ H4 H5 hi ⟨⟨u1, u2, rfl⟩, s5, t5, e5⟩ ⟨rfl, hxi⟩
    obtain ⟨h, hh, t, p, ys, rfl, qt, ep, hr0, _⟩ := paired_get hx hxi
    have hm := List.mem_of_getElem? hh
    have okr := ok.ok h hm
    simp only [tSl, tPart, tNoPart, tCKw, tVals, gStar, gCons, gNil, StX.tStar, tFmtS, tFmtI, tM0, tJs, tM1, rNewStrs, tMatch, setAll, lit_to, lit_page, lit_section, lit_gone, lit_exact, lit_open, tSeq, tAsg, tIfS, tRet, tRetN, tDrop, tNext, tNever, tOr, tAnd, tNot, tB, tTest, tCB, tCons, tVar, tC, tNil, tOp, tUn, tIf, tAndV, tOrV, tNotV, tChain, tTup, tLst, tCallR, tMethN, tMakeN, tPropN, tYes, gName, cx_K, cx_P, cx_w, rI0, rI, rEq, rNe, List.getElem?_cons_zero, List.getElem?_cons_succ, List.set_cons_zero, List.set_cons_succ, Option.some.injEq, exists_eq_left', exists_eq_left, V.bl.injEq, V.int.injEq, V.str.injEq, V.ref.injEq, List.cons.injEq, and_true, true_and, exists_and_left, and_assoc, List.append_nil, gTup, gCons, gNil, tBM, rAppend]
    have h7 := dg_len7 (n := h.1) (by have := ok.dy h hm; omega)
    have hln := lnL_len (hs.take i)
    rw [List.length_take] at hln
    have hlt : (((lnL (hs.take i)).map T).map V.str).length ≤ 100 := by
      rw [List.length_map, List.length_map]
      omega
    have ep5 := s5 _ _ ep (fun _ z => (nomatch z))
    have hr5 := hr0.kt s5.kt
    have npl : p ≠ l := ne_of_none ep hl
    have htk : lnL (hs.take (i + 1)) = lnL (hs.take i) ++ lnLH h := by
      show List.flatMap _ _ = _
      rw [List.take_add_one, hh, List.flatMap_append]
      exact congrArg _ (List.append_nil _)
    simp only [lx_day, num_T, T_cat]
    refine ⟨_, sqt_kt s5.kt qt, rfl, _, _, rfl, _, _, rfl, rfl, tyL e5, _, rfl, log_lt (by have := ok.dy h hm; omega), ?_, _, e5, Nat.lt_of_le_of_lt hlt (by decide), szl rfl, fun n hn => ?_⟩
    · rw [num_T, T_len, T_len]
      exact Nat.le_trans (show 4 + (dg h.1).length ≤ 100 by omega) (by decide)
    simp only [num_T, T_cat] at hn ⊢
    have s6 := s5.mt (o := .lst (((lnL (hs.take i)).map T).map V.str ++ [V.str (T (sDay ++ [32] ++ dg h.1))])) hl
    have t6 := nlt _ e5 (((lnL (hs.take i)).map T).map V.str ++ [V.str (T (sDay ++ [32] ++ dg h.1))]) t5
    have e6 := upd_same (H := H5) (a := l) (o := .lst (((lnL (hs.take i)).map T).map V.str ++ [V.str (T (sDay ++ [32] ++ dg h.1))]))
    have kt6 : KeepT H5 (upd H5 l (.lst (((lnL (hs.take i)).map T).map V.str ++ [V.str (T (sDay ++ [32] ++ dg h.1))]))) := (Same.refl H5).kt.mut e5 trivial
    have ep6 := (upd_ne (H := H5) (o := .lst (((lnL (hs.take i)).map T).map V.str ++ [V.str (T (sDay ++ [32] ++ dg h.1))])) npl).trans ep5
    have hr6 := hr5.kt kt6
    generalize upd H5 l (.lst (((lnL (hs.take i)).map T).map V.str ++ [V.str (T (sDay ++ [32] ++ dg h.1))])) = H6 at *
    have s67 := (Same.refl H6).nw (o := .lst []) hn
    have s7 := s6.trans (ExtN.of s67)
    have t7 := t6.ext s67
    have e7 := s67 _ _ e6
    have ep7 := s67 _ _ ep6
    have hr7 := hr6.kt s67.kt
    have en7 := upd_same (H := H6) (a := n) (o := .lst [])
    generalize upd H6 n (.lst []) = H7 at *
    refine ⟨.list (h.2.map dR), .list [], .lst (SqL.of ep7) (rus_dp hr7), .lst (SqL.of en7) .nil, shaped_Rs okr.ok, rfl, ?_⟩
    by_cases h0 : h.2 = []
    · rw [h0]
      refine ⟨false, rfl, iteF ⟨⟨_, rfl⟩, s7, t7, ?_⟩⟩
      rw [e7, htk, show lnLH h = [sDay ++ ([32] ++ dg h.1)] by unfold lnLH; rw [if_pos h0], List.map_append, List.map_append, List.append_assoc]
      rfl
    · refine ⟨true, by cases hz : h.2 with | nil => exact absurd hz h0 | cons r rs => rfl, iteT ⟨tyL e7, _, rfl, p, ys, h.2, rfl, ep7, hr7, okr, t7, fun H8 s8 t8 => ?_⟩⟩
      have e8 := s8 _ _ e7 (fun _ z => (nomatch z))
      refine ⟨_, e8, ?_, ⟨_, rfl⟩, (s7.trans s8).mt hl, nlt _ e8 _ t8, ?_⟩
      · rw [List.length_append]
        exact Nat.lt_of_le_of_lt (show _ ≤ 200 by show _ + 1 ≤ 200; omega) (by decide)
      · rw [upd_same, htk, show lnLH h = [sDay ++ ([32] ++ dg h.1), tTb (sortR h.2)] by unfold lnLH; rw [if_neg h0], List.map_append, List.map_append, List.append_assoc, List.append_assoc]
        rfl
  · rintro σ H4 ⟨⟨u1, u2, rfl⟩, s5, t5, e5⟩
    rw [hxl, List.take_length] at e5
    simp only [tSl, tPart, tNoPart, tCKw, tVals, gStar, gCons, gNil, StX.tStar, tFmtS, tFmtI, tM0, tJs, tM1, rNewStrs, tMatch, setAll, lit_to, lit_page, lit_section, lit_gone, lit_exact, lit_open, tSeq, tAsg, tIfS, tRet, tRetN, tDrop, tNext, tNever, tOr, tAnd, tNot, tB, tTest, tCB, tCons, tVar, tC, tNil, tOp, tUn, tIf, tAndV, tOrV, tNotV, tChain, tTup, tLst, tCallR, tMethN, tMakeN, tPropN, tYes, gName, cx_K, cx_P, cx_w, rI0, rI, rEq, rNe, List.getElem?_cons_zero, List.getElem?_cons_succ, List.set_cons_zero, List.set_cons_succ, Option.some.injEq, exists_eq_left', exists_eq_left, V.bl.injEq, V.int.injEq, V.str.injEq, V.ref.injEq, List.cons.injEq, and_true, true_and, exists_and_left, and_assoc, List.append_nil]
    rw [lx_nl]
    refine ⟨⟨_, rfl⟩, (lnL hs).map T, .inl (SqL.of e5), ?_, ?_⟩
    · have hl2 := lnL_len hs
      have h1 := sum_len 5100 (lnL hs) (lnL_mem ok)
      have h2 : (lnL hs).length * 5100 ≤ 40 * 5100 := Nat.mul_le_mul_right _ (by omega)
      rw [List.map_map, show ((fun x : Str => x.length) ∘ T) = List.length from funext fun l => T_len l, List.length_map, T_len]
      show _ + (lnL hs).length * 1 ≤ _
      omega
    · rw [join_T, lnL_join]
      exact k _ s5 t5
end
end K88
set_option maxHeartbeats 4000000
/-! Histories of a site, in plain Lean. -/
namespace K88
section
variable {α : Type}
theorem aget_nil (n : Wd) : aget ([] : List (Wd × α)) n = none := rfl
theorem aget_cons (x : Wd × α) (l : List (Wd × α)) (n : Wd) : aget (x :: l) n = if x.1 = n then some x.2 else aget l n := by
  unfold aget
  rw [List.find?_cons]
  by_cases h : x.1 = n
  · rw [if_pos h, decide_eq_true h]
    rfl
  · rw [if_neg h, decide_eq_false h]
theorem aget_mem {n : Wd} {v : α} : ∀ {l : List (Wd × α)}, aget l n = some v → (n, v) ∈ l
  | [], h => nomatch h
  | x :: l, h => by
    rw [aget_cons] at h
    split at h
    · rename_i e
      cases h
      rw [← e]
      exact List.mem_cons_self ..
    · exact List.mem_cons_of_mem _ (aget_mem h)
theorem aget_none {n : Wd} : ∀ {l : List (Wd × α)}, aget l n = none ↔ ∀ x ∈ l, x.1 ≠ n
  | [] => ⟨fun _ _ z => (nomatch z), fun _ => rfl⟩
  | x :: l => by
    rw [aget_cons]
    constructor
    · intro h y hy
      split at h
      · cases h
      · rename_i e
        rcases List.mem_cons.mp hy with rfl | hy
        · exact e
        · exact aget_none.mp h y hy
    · intro h
      rw [if_neg (h x (List.mem_cons_self ..))]
      exact aget_none.mpr fun y hy => h y (List.mem_cons_of_mem _ hy)
theorem aget_of_mem {n : Wd} {v : α} : ∀ {l : List (Wd × α)}, (l.map (·.1)).Nodup → (n, v) ∈ l → aget l n = some v
  | [], _, h => nomatch h
  | x :: l, nd, h => by
    rw [aget_cons]
    have nd := List.nodup_cons.mp nd
    rcases List.mem_cons.mp h with rfl | h
    · rw [if_pos rfl]
    · rw [if_neg (fun e => nd.1 (by show x.1 ∈ _; rw [e]; exact List.mem_map_of_mem (f := fun x : Wd × α => x.1) h))]
      exact aget_of_mem nd.2 h
theorem aput_old {l : List (Wd × α)} {n : Wd} {v : α} (h : l.any (fun x => decide (x.1 = n)) = true) : aput l n v = l.map (fun x => if x.1 = n then (x.1, v) else x) := if_pos h
theorem aput_new {l : List (Wd × α)} {n : Wd} {v : α} (h : ¬ l.any (fun x => decide (x.1 = n)) = true) : aput l n v = l ++ [(n, v)] := if_neg h
theorem aget_app (l r : List (Wd × α)) (n : Wd) : aget (l ++ r) n = (aget l n).or (aget r n) := by
  induction l with
  | nil => rfl
  | cons x l ih =>
    rw [List.cons_append, aget_cons, aget_cons, ih]
    split <;> rfl
theorem aget_put_ne {m n : Wd} (h : m ≠ n) (v : α) (l : List (Wd × α)) : aget (aput l n v) m = aget l m := by
  unfold aput
  split
  · rename_i hq
    clear hq
    induction l with
    | nil => rfl
    | cons x l ih =>
      rw [List.map_cons, aget_cons, aget_cons, ih]
      by_cases e : x.1 = n
      · rw [if_pos e, if_neg (show ¬ x.1 = m from fun z => h (z.symm.trans e)), if_neg (show ¬ x.1 = m from fun z => h (z.symm.trans e))]
      · rw [if_neg e]
  · rw [aget_app, aget_cons, if_neg (fun z => h z.symm), aget_nil, Option.or_none]
theorem aget_del_ne {m n : Wd} (h : m ≠ n) (l : List (Wd × α)) : aget (adel l n) m = aget l m := by
  unfold adel
  induction l with
  | nil => rfl
  | cons x l ih =>
    rw [aget_cons]
    by_cases e : x.1 = n
    · rw [List.filter_cons_of_neg (by simp [e]), ih, if_neg (fun z => h (z.symm.trans e))]
    · rw [List.filter_cons_of_pos (by simp [e]), aget_cons, ih]
theorem aget_del (n : Wd) (l : List (Wd × α)) : aget (adel l n) n = none := aget_none.mpr fun x hx => of_decide_eq_true (List.mem_filter.mp hx).2
theorem keys_put (l : List (Wd × α)) (n : Wd) (v : α) : (aput l n v).map (·.1) = if l.any (fun x => decide (x.1 = n)) = true then l.map (·.1) else l.map (·.1) ++ [n] := by
  unfold aput
  split
  · rw [List.map_map]
    exact List.map_congr_left fun x _ => by
      show (if x.1 = n then (x.1, v) else x).1 = x.1
      split <;> rfl
  · rw [List.map_append]
    rfl
theorem nd_put {l : List (Wd × α)} {n : Wd} {v : α} (h : (l.map (·.1)).Nodup) : ((aput l n v).map (·.1)).Nodup := by
  rw [keys_put]
  split
  · exact h
  · rename_i e
    refine List.nodup_append.mpr ⟨h, List.nodup_cons.mpr ⟨List.not_mem_nil, List.nodup_nil⟩, ?_⟩
    intro a ha b hb z
    obtain ⟨x, hx, rfl⟩ := List.mem_map.mp ha
    rw [List.mem_singleton.mp hb] at z
    exact e (List.any_eq_true.mpr ⟨x, hx, decide_eq_true z⟩)
theorem nd_del {l : List (Wd × α)} {n : Wd} (h : (l.map (·.1)).Nodup) : ((adel l n).map (·.1)).Nodup := (List.filter_sublist.map _).nodup h
theorem len_put (l : List (Wd × α)) (n : Wd) (v : α) : (aput l n v).length ≤ l.length + 1 := by
  unfold aput
  split <;> simp
theorem len_del (l : List (Wd × α)) (n : Wd) : (adel l n).length ≤ l.length := List.length_filter_le _ _
theorem mem_put {l : List (Wd × α)} {n : Wd} {v : α} {x : Wd × α} (h : x ∈ aput l n v) : x ∈ l ∨ x.2 = v := by
  unfold aput at h
  split at h
  · obtain ⟨y, hy, e⟩ := List.mem_map.mp h
    split at e
    · rw [← e]
      exact .inr rfl
    · exact .inl (e ▸ hy)
  · rcases List.mem_append.mp h with h | h
    · exact .inl h
    · rw [List.mem_singleton.mp h]
      exact .inr rfl
theorem mem_del {l : List (Wd × α)} {n : Wd} {x : Wd × α} (h : x ∈ adel l n) : x ∈ l := (List.mem_filter.mp h).1
end
/-! ### sizes -/
structure Sz (k : Nat) (st : SS) : Prop where
  e : st.ev.length ≤ k
  p : st.sp.length ≤ k
  h : st.he.length ≤ k
  s : st.so.length ≤ k
  o : st.ot.length ≤ k
theorem Sz.step {k : Nat} {st : SS} (z : Sz k st) (e : Ev) : Sz (k + 1) (st.doEv e) := by
  obtain ⟨z1, z2, z3, z4, z5⟩ := z
  have a1 := fun n v => len_put st.sp n v
  have a2 := fun n v => len_put st.so n v
  have a3 := fun n v => len_put st.ot n v
  have a4 := fun n => len_del st.sp n
  have a5 := fun n => len_del st.ot n
  have a6 := fun n v => len_put (adel st.sp n) n v
  have hv : (st.doEv e).ev.length ≤ k + 1 := by
    rw [doEv_ev, List.length_append]
    exact Nat.add_le_add_right z1 1
  cases e with
  | pl v d s n p =>
    cases v with
    | put =>
      refine ⟨hv, ?_, ?_, ?_, Nat.le_succ_of_le z5⟩
      · have := a1 n p
        show (aput st.sp n p).length ≤ _
        omega
      · show (st.he ++ [_]).length ≤ _
        rw [List.length_append]
        exact Nat.add_le_add_right z3 1
      · have := a2 n s
        show (aput st.so n s).length ≤ _
        omega
    | move =>
      refine ⟨hv, ?_, ?_, Nat.le_succ_of_le z4, Nat.le_succ_of_le z5⟩
      · have := a6 n p
        have := a4 n
        show (aput (adel st.sp n) n p).length ≤ _
        omega
      · show (st.he.map _ ++ [_]).length ≤ _
        rw [List.length_append, List.length_map]
        exact Nat.add_le_add_right z3 1
    | bring =>
      refine ⟨hv, ?_, ?_, Nat.le_succ_of_le z4, ?_⟩
      · have := a1 n p
        show (aput st.sp n p).length ≤ _
        omega
      · show (st.he ++ [_]).length ≤ _
        rw [List.length_append]
        exact Nat.add_le_add_right z3 1
      · have := a5 n
        show (adel st.ot n).length ≤ _
        omega
  | merge d s n o =>
    refine ⟨hv, ?_, ?_, Nat.le_succ_of_le z4, ?_⟩
    · have := a4 n
      show (adel st.sp n).length ≤ _
      omega
    · show (st.he.map _).length ≤ _
      rw [List.length_map]
      omega
    · have := a3 n (some o)
      show (aput st.ot n (some o)).length ≤ _
      omega
  | take d s n =>
    refine ⟨hv, ?_, ?_, Nat.le_succ_of_le z4, ?_⟩
    · have := a4 n
      show (adel st.sp n).length ≤ _
      omega
    · show (st.he.map _).length ≤ _
      rw [List.length_map]
      omega
    · have := a3 n none
      show (aput st.ot n none).length ≤ _
      omega
theorem doEv_okP {st : SS} {e : Ev} (h : ∀ x ∈ st.sp, OkA x.2) (ok : OkEv e) : ∀ x ∈ (st.doEv e).sp, OkA x.2 := by
  cases e with
  | pl v d s n p =>
    cases v with
    | put =>
      intro x hx
      rcases mem_put (show x ∈ aput st.sp n p from hx) with z | z
      · exact h x z
      · rw [z]
        exact ok.2.2
    | move =>
      intro x hx
      rcases mem_put (show x ∈ aput (adel st.sp n) n p from hx) with z | z
      · exact h x (mem_del z)
      · rw [z]
        exact ok.2.2
    | bring =>
      intro x hx
      rcases mem_put (show x ∈ aput st.sp n p from hx) with z | z
      · exact h x z
      · rw [z]
        exact ok.2.2
  | merge d s n o => exact fun x hx => h x (mem_del (show x ∈ adel st.sp n from hx))
  | take d s n => exact fun x hx => h x (mem_del (show x ∈ adel st.sp n from hx))
theorem Wf.step {k : Nat} {st : SS} {e : Ev} (w : Wf st) (ok : OkEv e) (z : Sz k st) (hk : k < 40) : Wf (st.doEv e) := by
  have y := z.step e
  refine ⟨fun x hx => ?_, doEv_okP w.okP ok, Nat.le_trans y.e (by omega), Nat.le_trans y.p (by omega), Nat.le_trans y.h (by omega), Nat.le_trans y.s (by omega), Nat.le_trans y.o (by omega)⟩
  rw [doEv_ev] at hx
  rcases List.mem_append.mp hx with hx | hx
  · exact w.okE x hx
  · rw [List.mem_singleton.mp hx]
    exact ok
theorem CanAll.snoc : ∀ {es : List Ev} {st : SS} {e : Ev}, CanAll st es → Can (st.doAll es) e → Wf ((st.doAll es).doEv e) → CanAll st (es ++ [e])
  | [], st, e, h, c, w => ⟨h, c, w⟩
  | x :: es, st, e, h, c, w => ⟨h.1, h.2.1, CanAll.snoc (es := es) h.2.2 c w⟩
theorem doAll_snoc (st : SS) (es : List Ev) (e : Ev) : st.doAll (es ++ [e]) = (st.doAll es).doEv e := by
  show List.foldl _ _ _ = SS.doEv (List.foldl _ _ _) e
  rw [List.foldl_append]
  rfl
end K88
set_option maxHeartbeats 4000000
/-! A drawn history stays one that a site takes. -/
namespace K88
/-- es: what happened; l: what stands, in the law's order; d: the last day -/
structure Hst (k : Nat) (es : List Ev) (l : List (Wd × Ad)) (d : Nat) : Prop where
  can : CanAll SS.nil es
  sz : Sz k (SS.nil.doAll es)
  nl : (l.map (·.1)).Nodup
  np : ((SS.nil.doAll es).sp.map (·.1)).Nodup
  look : ∀ n, aget l n = aget (SS.nil.doAll es).sp n
  ot : ∀ n, (aget (SS.nil.doAll es).so n).isSome = true → aget (SS.nil.doAll es).sp n = none → ∃ o, aget (SS.nil.doAll es).ot n = some o
  sn : ∀ n, (aget (SS.nil.doAll es).sp n).isSome = true → (aget (SS.nil.doAll es).so n).isSome = true
  day : ∀ e ∈ es, e.day ≤ d
theorem Hst.nil (d : Nat) : Hst 0 [] [] d := ⟨⟨(fun _ z => (nomatch z)), (fun _ z => (nomatch z)), Nat.zero_le _, Nat.zero_le _, Nat.zero_le _, Nat.zero_le _, Nat.zero_le _⟩, ⟨Nat.le_refl _, Nat.le_refl _, Nat.le_refl _, Nat.le_refl _, Nat.le_refl _⟩, List.nodup_nil, List.nodup_nil, fun _ => rfl, (fun _ z => (nomatch z)), (fun _ z => (nomatch z)), (fun _ z => (nomatch z))⟩
theorem Hst.later {k : Nat} {es : List Ev} {l : List (Wd × Ad)} {d d' : Nat} (h : Hst k es l d) (hd : d ≤ d') : Hst k es l d' := ⟨h.can, h.sz, h.nl, h.np, h.look, h.ot, h.sn, fun e he => Nat.le_trans (h.day e he) hd⟩
theorem Sz.up {k k' : Nat} {st : SS} (z : Sz k st) (h : k ≤ k') : Sz k' st := ⟨Nat.le_trans z.e h, Nat.le_trans z.p h, Nat.le_trans z.h h, Nat.le_trans z.s h, Nat.le_trans z.o h⟩
theorem Hst.up {k k' : Nat} {es : List Ev} {l : List (Wd × Ad)} {d : Nat} (h : Hst k es l d) (hk : k ≤ k') : Hst k' es l d := ⟨h.can, h.sz.up hk, h.nl, h.np, h.look, h.ot, h.sn, h.day⟩
theorem Hst.ev {k : Nat} {es : List Ev} {l : List (Wd × Ad)} {d : Nat} (_ : Hst k es l d) : (SS.nil.doAll es).ev = es := doAll_ev es SS.nil
/-- a place is free for a sort -/
def FreeL (l : List (Wd × Ad)) (so : List (Wd × Bool)) (s : Bool) (p : Ad) : Prop := ∀ x ∈ l, x.2 = p → aget so x.1 ≠ some s
theorem Hst.free {k : Nat} {es : List Ev} {l : List (Wd × Ad)} {d : Nat} (h : Hst k es l d) {s : Bool} {p : Ad} (f : FreeL l (SS.nil.doAll es).so s p) : FreeAt (SS.nil.doAll es) s p := fun x hx => by
  have h1 := aget_of_mem h.np (show (x.1, x.2) ∈ _ from hx)
  have h2 : aget l x.1 = some x.2 := (h.look x.1).trans h1
  have h3 := h.sn x.1 (by rw [h1]; rfl)
  obtain ⟨s', hs⟩ := Option.isSome_iff_exists.mp h3
  exact ⟨s', hs, fun e q => f (x.1, x.2) (aget_mem h2) e (by rw [hs, q])⟩
theorem Hst.dayOk {k : Nat} {es : List Ev} {l : List (Wd × Ad)} {d : Nat} (h : Hst k es l d) {e : Ev} (ok : OkEv e) (hd : e.day = d) : Day (SS.nil.doAll es) e := ⟨ok, fun x hx => by rw [h.ev] at hx; rw [hd]; exact h.day x hx⟩
theorem Hst.step {k : Nat} {es : List Ev} {l l' : List (Wd × Ad)} {d : Nat} (h : Hst k es l d) (hk : k < 40) {e : Ev} (ok : OkEv e) (hd : e.day = d) (c : Can (SS.nil.doAll es) e) (nl : (l'.map (·.1)).Nodup) (np : (((SS.nil.doAll es).doEv e).sp.map (·.1)).Nodup)
    (look : ∀ n, aget l' n = aget ((SS.nil.doAll es).doEv e).sp n) (ot : ∀ n, (aget ((SS.nil.doAll es).doEv e).so n).isSome = true → aget ((SS.nil.doAll es).doEv e).sp n = none → ∃ o, aget ((SS.nil.doAll es).doEv e).ot n = some o)
    (sn : ∀ n, (aget ((SS.nil.doAll es).doEv e).sp n).isSome = true → (aget ((SS.nil.doAll es).doEv e).so n).isSome = true) : Hst (k + 1) (es ++ [e]) l' d := by
  have e1 := doAll_snoc SS.nil es e
  refine ⟨h.can.snoc c (h.can.last.step ok h.sz hk), by rw [e1]; exact h.sz.step e, nl, by rw [e1]; exact np, by rw [e1]; exact look, by rw [e1]; exact ot, by rw [e1]; exact sn, fun x hx => ?_⟩
  rcases List.mem_append.mp hx with hx | hx
  · exact h.day x hx
  · rw [List.mem_singleton.mp hx]
    exact Nat.le_of_eq hd
section
variable {k : Nat} {es : List Ev} {l : List (Wd × Ad)} {d : Nat} {s : Bool} {n : Wd} {p : Ad}
theorem Hst.put (h : Hst k es l d) (hk : k < 40) (ok : OkEv (.pl .put d s n p)) (hn : aget (SS.nil.doAll es).so n = none) (f : FreeL l (SS.nil.doAll es).so s p) : Hst (k + 1) (es ++ [.pl .put d s n p]) (aput l n p) d := by
  refine h.step hk ok rfl ⟨h.dayOk ok rfl, hn, h.free f⟩ (nd_put h.nl) (nd_put h.np) (fun m => ?_) (fun m h1 h2 => ?_) fun m h1 => ?_
  · show aget (aput l n p) m = aget (aput _ n p) m
    by_cases e : m = n
    · rw [e, aget_put, aget_put]
    · rw [aget_put_ne e, aget_put_ne e]
      exact h.look m
  · have h1 : (aget (aput (SS.nil.doAll es).so n s) m).isSome = true := h1
    have h2 : aget (aput (SS.nil.doAll es).sp n p) m = none := h2
    by_cases e : m = n
    · rw [e, aget_put] at h2
      cases h2
    · rw [aget_put_ne e] at h1 h2
      exact h.ot m h1 h2
  · have h1 : (aget (aput (SS.nil.doAll es).sp n p) m).isSome = true := h1
    show (aget (aput (SS.nil.doAll es).so n s) m).isSome = true
    by_cases e : m = n
    · rw [e, aget_put]
      rfl
    · rw [aget_put_ne e] at h1 ⊢
      exact h.sn m h1
theorem Hst.move (h : Hst k es l d) (hk : k < 40) (ok : OkEv (.pl .move d s n p)) (hn : aget (SS.nil.doAll es).so n = some s) (hs : (aget l n).isSome = true) (f : FreeL l (SS.nil.doAll es).so s p) : Hst (k + 1) (es ++ [.pl .move d s n p]) (aput l n p) d := by
  rw [h.look] at hs
  refine h.step hk ok rfl ⟨h.dayOk ok rfl, hn, Option.isSome_iff_exists.mp hs, h.free f⟩ (nd_put h.nl) (nd_put (nd_del h.np)) (fun m => ?_) (fun m h1 h2 => ?_) fun m h1 => ?_
  · show aget (aput l n p) m = aget (aput (adel _ n) n p) m
    by_cases e : m = n
    · rw [e, aget_put, aget_put]
    · rw [aget_put_ne e, aget_put_ne e, aget_del_ne e]
      exact h.look m
  · have h2 : aget (aput (adel (SS.nil.doAll es).sp n) n p) m = none := h2
    by_cases e : m = n
    · rw [e, aget_put] at h2
      cases h2
    · rw [aget_put_ne e, aget_del_ne e] at h2
      exact h.ot m h1 h2
  · have h1 : (aget (aput (adel (SS.nil.doAll es).sp n) n p) m).isSome = true := h1
    show (aget (SS.nil.doAll es).so m).isSome = true
    by_cases e : m = n
    · rw [e, hn]
      rfl
    · rw [aget_put_ne e, aget_del_ne e] at h1
      exact h.sn m h1
theorem Hst.bring (h : Hst k es l d) (hk : k < 40) (ok : OkEv (.pl .bring d s n p)) (hn : aget (SS.nil.doAll es).so n = some s) (hs : aget l n = none) (f : FreeL l (SS.nil.doAll es).so s p) : Hst (k + 1) (es ++ [.pl .bring d s n p]) (aput l n p) d := by
  rw [h.look] at hs
  refine h.step hk ok rfl ⟨h.dayOk ok rfl, hn, hs, h.ot n (by rw [hn]; rfl) hs, h.free f⟩ (nd_put h.nl) (nd_put h.np) (fun m => ?_) (fun m h1 h2 => ?_) fun m h1 => ?_
  · show aget (aput l n p) m = aget (aput _ n p) m
    by_cases e : m = n
    · rw [e, aget_put, aget_put]
    · rw [aget_put_ne e, aget_put_ne e]
      exact h.look m
  · have h2 : aget (aput (SS.nil.doAll es).sp n p) m = none := h2
    by_cases e : m = n
    · rw [e, aget_put] at h2
      cases h2
    · rw [aget_put_ne e] at h2
      show ∃ o, aget (adel (SS.nil.doAll es).ot n) m = some o
      rw [aget_del_ne e]
      exact h.ot m h1 h2
  · have h1 : (aget (aput (SS.nil.doAll es).sp n p) m).isSome = true := h1
    show (aget (SS.nil.doAll es).so m).isSome = true
    by_cases e : m = n
    · rw [e, hn]
      rfl
    · rw [aget_put_ne e] at h1
      exact h.sn m h1
theorem Hst.merge {o : Wd} (h : Hst k es l d) (hk : k < 40) (ok : OkEv (.merge d s n o)) (hn : aget (SS.nil.doAll es).so n = some s) (hs : (aget l n).isSome = true) (hno : aget (SS.nil.doAll es).so o = some s) (hso : (aget l o).isSome = true) (ne : n ≠ o) : Hst (k + 1) (es ++ [.merge d s n o]) (adel l n) d := by
  rw [h.look] at hs hso
  refine h.step hk ok rfl ⟨h.dayOk ok rfl, hn, hno, Option.isSome_iff_exists.mp hs, Option.isSome_iff_exists.mp hso, ne⟩ (nd_del h.nl) (nd_del h.np) (fun m => ?_) (fun m h1 h2 => ?_) fun m h1 => ?_
  · show aget (adel l n) m = aget (adel _ n) m
    by_cases e : m = n
    · rw [e, aget_del, aget_del]
    · rw [aget_del_ne e, aget_del_ne e]
      exact h.look m
  · have h2 : aget (adel (SS.nil.doAll es).sp n) m = none := h2
    show ∃ q, aget (aput (SS.nil.doAll es).ot n (some o)) m = some q
    by_cases e : m = n
    · rw [e, aget_put]
      exact ⟨_, rfl⟩
    · rw [aget_del_ne e] at h2
      rw [aget_put_ne e]
      exact h.ot m h1 h2
  · have h1 : (aget (adel (SS.nil.doAll es).sp n) m).isSome = true := h1
    show (aget (SS.nil.doAll es).so m).isSome = true
    by_cases e : m = n
    · rw [e, hn]
      rfl
    · rw [aget_del_ne e] at h1
      exact h.sn m h1
theorem Hst.take (h : Hst k es l d) (hk : k < 40) (ok : OkEv (.take d s n)) (hn : aget (SS.nil.doAll es).so n = some s) (hs : (aget l n).isSome = true) : Hst (k + 1) (es ++ [.take d s n]) (adel l n) d := by
  rw [h.look] at hs
  refine h.step hk ok rfl ⟨h.dayOk ok rfl, hn, Option.isSome_iff_exists.mp hs⟩ (nd_del h.nl) (nd_del h.np) (fun m => ?_) (fun m h1 h2 => ?_) fun m h1 => ?_
  · show aget (adel l n) m = aget (adel _ n) m
    by_cases e : m = n
    · rw [e, aget_del, aget_del]
    · rw [aget_del_ne e, aget_del_ne e]
      exact h.look m
  · have h2 : aget (adel (SS.nil.doAll es).sp n) m = none := h2
    show ∃ q, aget (aput (SS.nil.doAll es).ot n none) m = some q
    by_cases e : m = n
    · rw [e, aget_put]
      exact ⟨_, rfl⟩
    · rw [aget_del_ne e] at h2
      rw [aget_put_ne e]
      exact h.ot m h1 h2
  · have h1 : (aget (adel (SS.nil.doAll es).sp n) m).isSome = true := h1
    show (aget (SS.nil.doAll es).so m).isSome = true
    by_cases e : m = n
    · rw [e, hn]
      rfl
    · rw [aget_del_ne e] at h1
      exact h.sn m h1
end
end K88
set_option maxHeartbeats 4000000
/-! What is free at a place. -/
namespace K88
open PySem PySem.Spec PyProof.Rows L2
def frK (fr : Bool → Bool) : List (Key × V) := [(kW sPage, .bl (fr false)), (kW sSection, .bl (fr true))]
theorem kPS : kW sPage ≠ kW sSection := by decide +kernel
theorem frK_val (fr : Bool → Bool) (s : Bool) : valV (frK fr) (kW (sortN s)) = some (.bl (fr s)) := by
  cases s
  · show valV [(kW sPage, V.bl (fr false)), (kW sSection, .bl (fr true))] (kW sPage) = _
    simp [valV]
  · show valV [(kW sPage, V.bl (fr false)), (kW sSection, .bl (fr true))] (kW sSection) = _
    simp [valV, kPS]
theorem frK_put (fr : Bool → Bool) (s b : Bool) : putK (frK fr) (kW (sortN s)) (.bl b) = frK (fun t => if t = s then b else fr t) := by
  cases s
  · show putK [(kW sPage, V.bl (fr false)), (kW sSection, .bl (fr true))] (kW sPage) _ = _
    simp [putK, kPS.symm, frK]
  · show putK [(kW sPage, V.bl (fr false)), (kW sSection, .bl (fr true))] (kW sSection) _ = _
    simp [putK, kPS, frK]
theorem dget_fr {H : Hp} {a : Addr} {fr : Bool → Bool} (e : H a = some (.dK (frK fr))) (s : Bool) : DGet H a (vW (sortN s)) (some (.bl (fr s))) := by
  have h := DGet.k (k := kW (sortN s)) e
  rw [frK_val] at h
  exact h
theorem dput_fr {H : Hp} {a : Addr} {fr : Bool → Bool} (e : H a = some (.dK (frK fr))) (s b : Bool) : DPut H a (vW (sortN s)) (.bl b) (upd H a (.dK (frK (fun t => if t = s then b else fr t)))) :=
  .inl ⟨_, kW (sortN s), e, rfl, Nat.lt_of_lt_of_le (show 2 < 1000 by decide) (by decide), by rw [frK_put]⟩
/-- what the table tells of the first i -/
def FrOk (l : List (Wd × Ad)) (so : List (Wd × Bool)) (p : Ad) (i : Nat) (fr : Bool → Bool) : Prop := ∀ s, fr s = true → FreeL (l.take i) so s p
theorem FrOk.nil {l : List (Wd × Ad)} {so : List (Wd × Bool)} {p : Ad} {fr : Bool → Bool} : FrOk l so p 0 fr := fun _ _ _ z => by
  rw [List.take_zero] at z
  cases z
theorem FrOk.no {l : List (Wd × Ad)} {so : List (Wd × Bool)} {p : Ad} {i : Nat} {fr : Bool → Bool} {x : Wd × Ad} (h : FrOk l so p i fr) (hx : l[i]? = some x) (n : x.2 ≠ p) : FrOk l so p (i + 1) fr := fun s hs y hy e => by
  rw [List.take_add_one, hx] at hy
  rcases List.mem_append.mp hy with hy | hy
  · exact h s hs y hy e
  · rw [List.mem_singleton.mp hy] at e
    exact absurd e n
theorem FrOk.yes {l : List (Wd × Ad)} {so : List (Wd × Bool)} {p : Ad} {i : Nat} {fr : Bool → Bool} {x : Wd × Ad} {t : Bool} (h : FrOk l so p i fr) (hx : l[i]? = some x) (ht : aget so x.1 = some t) : FrOk l so p (i + 1) (fun s => if s = t then false else fr s) := fun s hs y hy e => by
  rw [List.take_add_one, hx] at hy
  have hs : (if s = t then false else fr s) = true := hs
  split at hs
  · cases hs
  · rename_i n
    rcases List.mem_append.mp hy with hy | hy
    · exact h s hs y hy e
    · rw [List.mem_singleton.mp hy, ht]
      exact fun z => n (Option.some.inj z).symm
theorem FrOk.free {l : List (Wd × Ad)} {so : List (Wd × Bool)} {p : Ad} {fr : Bool → Bool} {s : Bool} (h : FrOk l so p l.length fr) (hs : fr s = true) : FreeL l so s p := by
  have := h s hs
  rw [List.take_length] at this
  exact this
end K88
set_option maxHeartbeats 4000000
/-! The history of a site, drawn. -/
namespace K88
open PySem PySem.Spec PyProof.Rows L2
def nmW : List Wd := [[104, 111, 109, 101], [115], [110, 101, 119, 115], [116], [111, 108, 100]]
theorem nmW_ok : ∀ w ∈ nmW, OkW w := fun w hw => by
  simp only [nmW, List.mem_cons, List.not_mem_nil, or_false] at hw
  rcases hw with rfl | rfl | rfl | rfl | rfl <;> exact ⟨by decide, by decide, by decide⟩
/-- what the law draws -/
def LEv : Ev → Prop
  | .pl _ _ _ n p => n ∈ nmW ∧ OkL 2 p
  | .merge _ _ n o => n ∈ nmW ∧ o ∈ nmW
  | .take _ _ n => n ∈ nmW
/-- what stands, by names -/
def LOk (i : Nat) (l : List (Wd × Ad)) : Prop := l.length ≤ i ∧ ∀ x ∈ l, x.1 ∈ nmW
theorem LOk.nil : LOk 0 [] := ⟨Nat.le_refl _, fun _ z => nomatch z⟩
theorem LOk.up {i : Nat} {l : List (Wd × Ad)} (h : LOk i l) : LOk (i + 1) l := ⟨Nat.le_succ_of_le h.1, h.2⟩
theorem LOk.put {i : Nat} {l : List (Wd × Ad)} {n : Wd} {q : Ad} (h : LOk i l) (hn : n ∈ nmW) : LOk (i + 1) (aput l n q) := by
  refine ⟨Nat.le_trans (len_put l n q) (Nat.succ_le_succ h.1), fun x hx => ?_⟩
  have hk : x.1 ∈ (aput l n q).map (·.1) := List.mem_map_of_mem (f := fun x : Wd × Ad => x.1) hx
  rw [keys_put] at hk
  have old : ∀ k ∈ l.map (·.1), k ∈ nmW := fun k hk => by
    obtain ⟨y, hy, rfl⟩ := List.mem_map.mp hk
    exact h.2 y hy
  split at hk
  · exact old _ hk
  · rcases List.mem_append.mp hk with hk | hk
    · exact old _ hk
    · rw [List.mem_singleton.mp hk]
      exact hn
theorem LOk.del {i : Nat} {l : List (Wd × Ad)} {n : Wd} (h : LOk i l) : LOk (i + 1) (adel l n) := ⟨Nat.le_succ_of_le (Nat.le_trans (len_del l n) h.1), fun x hx => h.2 x (mem_del hx)⟩
/-- what stands while the law writes -/
structure StG (K : PySem.W.Frag) (H0 : Hp) (lw S O E N : Addr) (es : List Ev) (so : List (Wd × Bool)) (l : List (Wd × Ad)) (H : Hp) : Prop where
  sb : SameB lw H0 H
  wl : WlAt H lw
  sp : ∃ ks, H S = some (.dK ks) ∧ SpAt K H ks l
  so : H O = some (.dK (soK so))
  ev : ∃ xs, H E = some (.lst xs) ∧ Paired (EvAt K H) xs es
  nm : H N = some (.lst (nmW.map vW))
/-- what a turn keeps -/
abbrev StS (K : PySem.W.Frag) (H0 : Hp) (lw S O E N : Addr) (es : List Ev) (l : List (Wd × Ad)) (H : Hp) : Prop := StG K H0 lw S O E N es (SS.nil.doAll es).so l H
structure StD (H0 : Hp) (lw S O E N : Addr) : Prop where
  s : H0 S = none
  o : H0 O = none
  e : H0 E = none
  n : H0 N = none
  w : H0 lw ≠ none
  so : S ≠ O
  en : E ≠ N
section
variable {K : PySem.W.Frag} {H0 H H' : Hp} {lw S O E N : Addr} {es : List Ev} {so : List (Wd × Bool)} {l : List (Wd × Ad)}
theorem StG.same (h : StG K H0 lw S O E N es so l H) (s : Same H H') : StG K H0 lw S O E N es so l H' := by
  obtain ⟨ks, e1, e2⟩ := h.sp
  obtain ⟨xs, e3, e4⟩ := h.ev
  exact ⟨h.sb.trans (s.sb lw), h.wl.same s, ⟨ks, s _ _ e1, e2.kt s.kt⟩, s _ _ h.so, ⟨xs, s _ _ e3, paired_imp e4 fun _ _ q => q.kt s.kt⟩, s _ _ h.nm⟩
theorem StG.kw (h : StG K H0 lw S O E N es so l H) (s : SameB lw H H') : KeepT H H' := by
  obtain ⟨_, _, z, _⟩ := h.wl
  exact s.kt z trivial
theorem StG.wel (h : StG K H0 lw S O E N es so l H) (D : StD H0 lw S O E N) (s : SameB lw H H') (w : WlAt H' lw) : StG K H0 lw S O E N es so l H' := by
  obtain ⟨ks, e1, e2⟩ := h.sp
  obtain ⟨xs, e3, e4⟩ := h.ev
  have kt := h.kw s
  have n1 : S ≠ lw := fun z => D.w (z ▸ D.s)
  have n2 : O ≠ lw := fun z => D.w (z ▸ D.o)
  have n3 : E ≠ lw := fun z => D.w (z ▸ D.e)
  have n4 : N ≠ lw := fun z => D.w (z ▸ D.n)
  exact ⟨h.sb.trans s, w, ⟨ks, s _ _ n1 e1, e2.kt kt⟩, s _ _ n2 h.so, ⟨xs, s _ _ n3 e3, paired_imp e4 fun _ _ q => q.kt kt⟩, s _ _ n4 h.nm⟩
/-- a place apart -/
structure Ap (H0 : Hp) (lw S O E N F : Addr) : Prop where
  z : H0 F = none
  s : F ≠ S
  o : F ≠ O
  e : F ≠ E
  n : F ≠ N
  w : F ≠ lw
theorem StG.ap (h : StG K H0 lw S O E N es so l H) (D : StD H0 lw S O E N) {F : Addr} (hF : H F = none) : Ap H0 lw S O E N F := by
  obtain ⟨ks, e1, _⟩ := h.sp
  obtain ⟨xs, e3, _⟩ := h.ev
  obtain ⟨_, _, e5, _⟩ := h.wl
  have nw := (ne_of_none e5 hF).symm
  refine ⟨?_, (ne_of_none e1 hF).symm, (ne_of_none h.so hF).symm, (ne_of_none e3 hF).symm, (ne_of_none h.nm hF).symm, nw⟩
  cases z : H0 F with
  | none => rfl
  | some o =>
    have := h.sb _ _ nw z
    rw [hF] at this
    cases this
theorem StG.off (h : StG K H0 lw S O E N es so l H) {F : Addr} (A : Ap H0 lw S O E N F) (s : SameB F H H') (kt : KeepT H H') : StG K H0 lw S O E N es so l H' := by
  obtain ⟨ks, e1, e2⟩ := h.sp
  obtain ⟨xs, e3, e4⟩ := h.ev
  obtain ⟨d, m, e5, e6⟩ := h.wl
  refine ⟨fun b o n e => s b o (ne_of_none e A.z) (h.sb b o n e), ⟨d, m, s _ _ A.w.symm e5, e6⟩, ⟨ks, s _ _ A.s.symm e1, e2.kt kt⟩, s _ _ A.o.symm h.so, ⟨xs, s _ _ A.e.symm e3, paired_imp e4 fun _ _ q => q.kt kt⟩, s _ _ A.n.symm h.nm⟩
theorem StG.ktS (h : StG K H0 lw S O E N es so l H) {o : HO} : KeepT H (upd H S o) := by
  obtain ⟨ks, e1, _⟩ := h.sp
  exact (Same.refl H).kt.mut e1 trivial
theorem StG.ktO (h : StG K H0 lw S O E N es so l H) {o : HO} : KeepT H (upd H O o) := (Same.refl H).kt.mut h.so trivial
theorem StG.ktE (h : StG K H0 lw S O E N es so l H) {o : HO} : KeepT H (upd H E o) := by
  obtain ⟨xs, e1, _⟩ := h.ev
  exact (Same.refl H).kt.mut e1 trivial
theorem StG.setS (h : StG K H0 lw S O E N es so l H) (D : StD H0 lw S O E N) {ks' : List (Key × V)} {l' : List (Wd × Ad)} (hs : SpAt K H ks' l') : StG K H0 lw S O E N es so l' (upd H S (.dK ks')) := by
  have kt := h.ktS (o := .dK ks')
  obtain ⟨ks, e1, e2⟩ := h.sp
  obtain ⟨xs, e3, e4⟩ := h.ev
  obtain ⟨d, m, e5, e6⟩ := h.wl
  have n1 : S ≠ lw := fun z => D.w (z ▸ D.s)
  exact ⟨fun b o n e => (upd_ne (ne_of_none e D.s)).trans (h.sb b o n e), ⟨d, m, (upd_ne n1.symm).trans e5, e6⟩, ⟨ks', upd_same, hs.kt kt⟩, (upd_ne D.so.symm).trans h.so, ⟨xs, (upd_ne (ne_of e3 e1 fun z => nomatch z)).trans e3, paired_imp e4 fun _ _ q => q.kt kt⟩, (upd_ne (ne_of h.nm e1 fun z => nomatch z)).trans h.nm⟩
theorem StG.setO (h : StG K H0 lw S O E N es so l H) (D : StD H0 lw S O E N) {so' : List (Wd × Bool)} : StG K H0 lw S O E N es so' l (upd H O (.dK (soK so'))) := by
  have kt := h.ktO (o := .dK (soK so'))
  obtain ⟨ks, e1, e2⟩ := h.sp
  obtain ⟨xs, e3, e4⟩ := h.ev
  obtain ⟨d, m, e5, e6⟩ := h.wl
  have n1 : O ≠ lw := fun z => D.w (z ▸ D.o)
  exact ⟨fun b o n e => (upd_ne (ne_of_none e D.o)).trans (h.sb b o n e), ⟨d, m, (upd_ne n1.symm).trans e5, e6⟩, ⟨ks, (upd_ne D.so).trans e1, e2.kt kt⟩, upd_same, ⟨xs, (upd_ne (ne_of e3 h.so fun z => nomatch z)).trans e3, paired_imp e4 fun _ _ q => q.kt kt⟩, (upd_ne (ne_of h.nm h.so fun z => nomatch z)).trans h.nm⟩
theorem StG.addE (h : StG K H0 lw S O E N es so l H) (D : StD H0 lw S O E N) {xs : List V} {v : V} {e : Ev} (e3 : H E = some (.lst xs)) (hv : EvAt K H v e) : StG K H0 lw S O E N (es ++ [e]) so l (upd H E (.lst (xs ++ [v]))) := by
  have kt := h.ktE (o := .lst (xs ++ [v]))
  obtain ⟨ks, e1, e2⟩ := h.sp
  obtain ⟨xs', e3', e4⟩ := h.ev
  rw [e3] at e3'
  cases e3'
  obtain ⟨d, m, e5, e6⟩ := h.wl
  have n1 : E ≠ lw := fun z => D.w (z ▸ D.e)
  exact ⟨fun b o n e => (upd_ne (ne_of_none e D.e)).trans (h.sb b o n e), ⟨d, m, (upd_ne n1.symm).trans e5, e6⟩, ⟨ks, (upd_ne (ne_of e1 e3 fun z => nomatch z)).trans e1, e2.kt kt⟩, (upd_ne (ne_of h.so e3 fun z => nomatch z)).trans h.so, ⟨_, upd_same, paired_snoc (hv.kt kt) (paired_imp e4 fun _ _ q => q.kt kt)⟩, (upd_ne D.en.symm).trans h.nm⟩
theorem spAt_val {n : Wd} {q : Ad} {ks : List (Key × V)} {l : List (Wd × Ad)} (h : SpAt K H ks l) (g : aget l n = some q) : ∃ v, valV ks (kW n) = some v ∧ AdAt K H v q := by
  induction h with
  | nil => cases g
  | @cons kv x ks l h t ih =>
    rw [aget_cons] at g
    by_cases z : x.1 = n
    · rw [if_pos z] at g
      cases g
      exact ⟨kv.2, by rw [valV_pos (h.1.trans (by rw [z]))], h.2⟩
    · rw [if_neg z] at g
      rw [valV_neg (fun e => z (kW_inj (h.1.symm.trans e)))]
      exact ih g
theorem spAt_keys {ks : List (Key × V)} {l : List (Wd × Ad)} (h : SpAt K H ks l) : ks.map (·.1) = (l.map fun x => T x.1).map Sum.inr := by
  induction h with
  | nil => rfl
  | cons h t ih => rw [List.map_cons, List.map_cons, List.map_cons, ih, h.1]; rfl
theorem StG.el (h : StG K H0 lw S O E N es so l H) : ∃ xs, H E = some (.lst xs) ∧ xs.length = es.length := by
  obtain ⟨xs, e, p⟩ := h.ev
  exact ⟨xs, e, Paired.length p⟩
end
/-- what stands in a turn, once the place and what is free are known -/
structure Bd (K : PySem.W.Frag) (H0 : Hp) (lw S O E N F : Addr) (es : List Ev) (so : List (Wd × Bool)) (l : List (Wd × Ad)) (v : V) (q : Ad) (fr : Bool → Bool) (H : Hp) : Prop where
  st : StG K H0 lw S O E N es so l H
  ad : AdAt K H v q
  fr : H F = some (.dK (frK fr))
section
variable {K : PySem.W.Frag} {H0 H H' : Hp} {lw S O E N F : Addr} {es : List Ev} {so : List (Wd × Bool)} {l : List (Wd × Ad)} {v : V} {q : Ad} {fr : Bool → Bool}
theorem Bd.same (h : Bd K H0 lw S O E N F es so l v q fr H) (s : Same H H') : Bd K H0 lw S O E N F es so l v q fr H' := ⟨h.st.same s, h.ad.mono s, s _ _ h.fr⟩
theorem Bd.wel (h : Bd K H0 lw S O E N F es so l v q fr H) (D : StD H0 lw S O E N) (A : Ap H0 lw S O E N F) (s : SameB lw H H') (w : WlAt H' lw) : Bd K H0 lw S O E N F es so l v q fr H' := ⟨h.st.wel D s w, h.ad.kt (h.st.kw s), s _ _ A.w h.fr⟩
theorem Bd.setS (h : Bd K H0 lw S O E N F es so l v q fr H) (D : StD H0 lw S O E N) (A : Ap H0 lw S O E N F) {ks' : List (Key × V)} {l' : List (Wd × Ad)} (hs : SpAt K H ks' l') : Bd K H0 lw S O E N F es so l' v q fr (upd H S (.dK ks')) := ⟨h.st.setS D hs, h.ad.kt h.st.ktS, (upd_ne A.s).trans h.fr⟩
theorem Bd.setO (h : Bd K H0 lw S O E N F es so l v q fr H) (D : StD H0 lw S O E N) (A : Ap H0 lw S O E N F) {so' : List (Wd × Bool)} : Bd K H0 lw S O E N F es so' l v q fr (upd H O (.dK (soK so'))) := ⟨h.st.setO D, h.ad.kt h.st.ktO, (upd_ne A.o).trans h.fr⟩
end
section
variable {P : Program} {w : World} {K : PySem.W.Frag} {mg : Str → Option Value} {base : Heap}
abbrev N_law_site_steps : List Str := ["_law_well_here", "_law_most", "_law_stands", "_law_sorts", "_law_events", "_law_day", "_law_names", "_law_turn", "_law_place", "_law_way", "_law_name", "_law_free", "_law_one", "_law_sort", "_law_others"]
theorem sc_law_site_steps : FnScope N_law_site_steps ["_law_well_here", "_law_most"] (defScope s_law_site_steps) := ⟨rfl, rfl, rfl, by decide +kernel, rfl, by decide +kernel, by decide +kernel⟩
theorem st_law_site_steps (x0 x1 : V) : L2.start N_law_site_steps [x0, x1] = [some x0, some x1, none, none, none, none, none, none, none, none, none, none, none, none, none] := rfl
def p_law_site_steps : V → V → Hp → VK → Prop := fun v mv H Q => ∃ (l : Addr) (m : Nat), v = .ref l ∧ mv = .int (m : Int) ∧ m ≤ 30 ∧ WlAt H l ∧
  ∀ p xs es H', H' p = some (.lst xs) → Paired (EvAt K H') xs es → CanAll SS.nil es → es.length ≤ m → (∀ e ∈ es, LEv e ∧ e.day ≤ 500) → SameB l H H' → WlAt H' l → Q (.ref p) H'
theorem ok_law_site_steps (L : Lw K mg) : FN P w K mg base 5 a_law_site_steps (sp2 (p_law_site_steps (K := K))) := by
  obtain ⟨fd, F⟩ := L.law_site_steps
  refine fn_any F sc_law_site_steps (len2 rfl) (fun _ _ _ _ _ _ us hl => match us, hl with | [_, _], _ => rfl) fun cdv A outer s H vs Q E hr h => ?_
  obtain ⟨_, _, rfl, lw, m, rfl, rfl, hm, hw, k⟩ := h
  have nd := sc_law_site_steps.nd
  refine ⟨_, (pss_cons (ps_asg (pe_tup (pa_cons pe_dnewK (pa_cons pe_dnewK (pa_cons (pe_lst pa_nil) (pa_cons pe_int pa_nil))))) (pg_tup rfl (pgs_cons (pg_name (i := 2) nd rfl (Or.inl rfl)) (pgs_cons (pg_name (i := 3) nd rfl (Or.inr rfl)) (pgs_cons (pg_name (i := 4) nd rfl (Or.inl rfl)) (pgs_cons (pg_name (i := 5) nd rfl (Or.inl rfl)) pgs_nil)))))) (pss_cons (ps_set (i := 6) nd rfl (Or.inl rfl) (pe_lst (pa_cons pe_str (pa_cons pe_str (pa_cons pe_str (pa_cons pe_str (pa_cons pe_str pa_nil))))))) (pss_cons (ps_for PassesOwn.never rfl (pi_range1 rfl L.z_range (pa_cons (pe_g (ok_law_draw L) (hr.mono (by decide)) rfl L.g_law_draw L.law_draw.kp (pa_cons (pv 0) (pa_cons (pe_op op_add (pv 1) pe_int) pa_nil))) pa_nil)) (pg_name (i := 7) nd rfl (Or.inl rfl)) (pss_cons (ps_set (i := 5) nd rfl (Or.inl rfl) (pe_op op_add (pv 5) (pe_g (ok_law_choose L) (hr.mono (by decide)) rfl L.g_law_choose L.law_choose.kp (pa_cons (pv 0) (pa_cons (pe_lst (pa_cons pe_int (pa_cons pe_int (pa_cons pe_int (pa_cons pe_int pa_nil))))) pa_nil))))) (pss_cons (ps_set (i := 8) nd rfl (Or.inl rfl) (pe_g (ok_law_address L) (hr.mono (by decide)) rfl L.g_law_address L.law_address.kp (pa_cons (pv 0) (pa_cons pe_int pa_nil)))) (pss_cons (ps_asg (pe_tup (pa_cons (pe_g (ok_law_draw L) (hr.mono (by decide)) rfl L.g_law_draw L.law_draw.kp (pa_cons (pv 0) (pa_cons pe_int pa_nil))) (pa_cons (pe_g (ok_law_choose L) (hr.mono (by decide)) rfl L.g_law_choose L.law_choose.kp (pa_cons (pv 0) (pa_cons (pv 6) pa_nil))) pa_nil))) (pg_tup rfl (pgs_cons (pg_name (i := 9) nd rfl (Or.inl rfl)) (pgs_cons (pg_name (i := 10) nd rfl (Or.inr rfl)) pgs_nil)))) (pss_cons (ps_set (i := 11) nd rfl (Or.inl rfl) (pe_disp (pps_cons pe_str pe_bl (pps_cons pe_str pe_bl pps_nil)) (by rfl) (by rfl) (fun z => by cases z) (by decide))) (pss_cons (ps_lock (ps_for PassesOwn.never rfl (pi_keys (pv 2)) (pg_name (i := 12) nd rfl (Or.inl rfl)) (pss_one (ps_if (pt_cmpR (op_eqD hr.units) (pe_dget (hu_of hr) (pv 2) (pv 12) (fun _ _ => rfl)) (pv 8) (nomark _)) (pss_one (ps_dput (hu_of hr) (pv 11) (pe_dget (hu_of hr) (pv 3) (pv 12) (fun _ _ => rfl)) pe_bl rfl)) pss_nil)))) (pss_one (ps_if (pt_cmp (pc_dnotin (hu_of hr) (pv 10) (pv 3))) (pss_cons (ps_set (i := 13) nd rfl (Or.inl rfl) (pe_g (ok_law_choose L) (hr.mono (by decide)) rfl L.g_law_choose L.law_choose.kp (pa_cons (pv 0) (pa_cons (pe_lst (pa_cons pe_str (pa_cons pe_str pa_nil))) pa_nil)))) (pss_one (ps_if (pt_val (pe_dget (hu_of hr) (pv 11) (pv 13) (fun _ _ => rfl))) (pss_cons (ps_asg (pe_tup (pa_cons (pv 13) (pa_cons (pv 8) pa_nil))) (pg_tup rfl (pgs_cons (pg_sub (pv 3) (pv 10) (set_dict (hu_of hr))) (pgs_cons (pg_sub (pv 2) (pv 10) (set_dict (hu_of hr))) pgs_nil)))) (pss_one (ps_expr (pe_bm PySem.F.plainAttrs_list PySem.F.slot_list_append PySem.F.type_list_append mt_append (pv 4) (pa_cons (pe_tup (pa_cons (pv 5) (pa_cons pe_str (pa_cons (pv 13) (pa_cons (pv 10) (pa_cons (pv 8) pa_nil)))))) pa_nil))))) pss_nil))) (pss_one (ps_if (pt_cmp (pc_dnotin (hu_of hr) (pv 10) (pv 2))) (pss_one (ps_if (pt_val (pe_dget (hu_of hr) (pv 11) (pe_dget (hu_of hr) (pv 3) (pv 10) (fun _ _ => rfl)) (fun _ _ => rfl))) (pss_cons (ps_dput (hu_of hr) (pv 2) (pv 10) (pv 8) rfl) (pss_one (ps_expr (pe_bm PySem.F.plainAttrs_list PySem.F.slot_list_append PySem.F.type_list_append mt_append (pv 4) (pa_cons (pe_tup (pa_cons (pv 5) (pa_cons pe_str (pa_cons (pe_dget (hu_of hr) (pv 3) (pv 10) (fun _ _ => rfl)) (pa_cons (pv 10) (pa_cons (pv 8) pa_nil)))))) pa_nil))))) pss_nil)) (pss_one (ps_if (pt_cmpR op_lt (pv 9) pe_int (nomark _)) (pss_one (ps_if (pt_val (pe_dget (hu_of hr) (pv 11) (pe_dget (hu_of hr) (pv 3) (pv 10) (fun _ _ => rfl)) (fun _ _ => rfl))) (pss_cons (ps_dput (hu_of hr) (pv 2) (pv 10) (pv 8) rfl) (pss_one (ps_expr (pe_bm PySem.F.plainAttrs_list PySem.F.slot_list_append PySem.F.type_list_append mt_append (pv 4) (pa_cons (pe_tup (pa_cons (pv 5) (pa_cons pe_str (pa_cons (pe_dget (hu_of hr) (pv 3) (pv 10) (fun _ _ => rfl)) (pa_cons (pv 10) (pa_cons (pv 8) pa_nil)))))) pa_nil))))) pss_nil)) (pss_cons (ps_setLc (i := 14) (own := [("_law_one", 12)]) (g := gName 12) rfl nd rfl rfl (sw_true rfl rfl rfl (by decide +kernel)) (pi_list (pe_callB (call_sortedD rfl) (by rfl) L.z_sorted (by decide +kernel) (pa_cons (pv 2) pa_nil))) (blkOk_by (N := N_law_site_steps) (sc := defScope s_law_site_steps) (by decide +kernel)) (fun _ _ _ _ _ => (pg_name (i := 12) nd rfl (Or.inl rfl))) (fun _ _ _ _ _ => pts_one (PW.pt (pw_and (pt_cmpR op_ne (pv 12) (pv 10) (nomark _)) (pw_and1 (pt_cmpR op_eq (pe_dget (hu_of hr) (pv 3) (pv 12) (fun _ _ => rfl)) (pe_dget (hu_of hr) (pv 3) (pv 10) (fun _ _ => rfl)) (nomark _)))))) (fun _ _ _ _ _ => (pv 12))) (pss_cons (ps_expr (pe_dpop1 (pv 2) (pv 10) ⟨rfl, rfl, rfl, rfl⟩)) (pss_one (ps_if (PW.pt (pw_and (pt_cmpR op_eq (pv 9) pe_int (nomark _)) (pw_and1 (pt_cmpR (op_neD hr.units) (pv 14) (pe_lst pa_nil) (nomark _))))) (pss_one (ps_expr (pe_bm PySem.F.plainAttrs_list PySem.F.slot_list_append PySem.F.type_list_append mt_append (pv 4) (pa_cons (pe_tup (pa_cons (pv 5) (pa_cons pe_str (pa_cons (pe_dget (hu_of hr) (pv 3) (pv 10) (fun _ _ => rfl)) (pa_cons (pv 10) (pa_cons (pe_g (ok_law_choose L) (hr.mono (by decide)) rfl L.g_law_choose L.law_choose.kp (pa_cons (pv 0) (pa_cons (pv 14) pa_nil))) pa_nil)))))) pa_nil)))) (pss_one (ps_expr (pe_bm PySem.F.plainAttrs_list PySem.F.slot_list_append PySem.F.type_list_append mt_append (pv 4) (pa_cons (pe_tup (pa_cons (pv 5) (pa_cons pe_str (pa_cons (pe_dget (hu_of hr) (pv 3) (pv 10) (fun _ _ => rfl)) (pa_cons (pv 10) pa_nil))))) pa_nil)))))))))))))))))))) (pss_one (ps_ret (pv 4)))))), ?_⟩
  simp only [tSl, tPart, tNoPart, tCKw, tVals, gStar, gCons, gNil, StX.tStar, tFmtS, tFmtI, tM0, tJs, tM1, rNewStrs, tMatch, setAll, lit_to, lit_page, lit_section, lit_gone, lit_exact, lit_open, tAsg, tRet, tRetN, tDrop, tNext, tNever, tNot, tB, tTest, tCB, tCons, tVar, tC, tNil, tOp, tUn, tAndV, tOrV, tNotV, tChain, tTup, tLst, tCallR, tMethN, tMakeN, tPropN, tYes, gName, cx_K, cx_P, cx_w, rI0, rI, rEq, rNe, List.getElem?_cons_zero, List.getElem?_cons_succ, List.set_cons_zero, List.set_cons_succ, Option.some.injEq, exists_eq_left', exists_eq_left, V.bl.injEq, V.int.injEq, V.str.injEq, V.ref.injEq, List.cons.injEq, and_true, true_and, exists_and_left, and_assoc, List.append_nil, st_law_site_steps]
  have wn : H lw ≠ none := fun z => by
    obtain ⟨_, _, q, _⟩ := hw
    rw [z] at q
    cases q
  refine seq_cut (Src := fun σ H1 => ∃ S O E, H S = none ∧ H O = none ∧ H E = none ∧ S ≠ O ∧ Same H H1 ∧ H1 S = some (.dK []) ∧ H1 O = some (.dK []) ∧ H1 E = some (.lst []) ∧ σ = [some (.ref lw), some (.int (m : Int)), some (.ref S), some (.ref O), some (.ref E), some (.int 0), none, none, none, none, none, none, none, none, none]) (fun R rr => ?_) ?_
  · simp only [tSl, tPart, tNoPart, tCKw, tVals, gStar, gCons, gNil, StX.tStar, tFmtS, tFmtI, tM0, tJs, tM1, rNewStrs, tMatch, setAll, lit_to, lit_page, lit_section, lit_gone, lit_exact, lit_open, tSeq, tAsg, tIfS, tRet, tRetN, tDrop, tNext, tNever, tOr, tAnd, tNot, tB, tTest, tCB, tCons, tVar, tC, tNil, tOp, tUn, tIf, tAndV, tOrV, tNotV, tChain, tTup, tLst, tCallR, tMethN, tMakeN, tPropN, tYes, gName, cx_K, cx_P, cx_w, rI0, rI, rEq, rNe, List.getElem?_cons_zero, List.getElem?_cons_succ, List.set_cons_zero, List.set_cons_succ, Option.some.injEq, exists_eq_left', exists_eq_left, V.bl.injEq, V.int.injEq, V.str.injEq, V.ref.injEq, List.cons.injEq, and_true, true_and, exists_and_left, and_assoc, List.append_nil, gTup, gCons, gNil, tDNewK]
    intro S hS O hO
    refine ⟨szl rfl, fun E hE => ⟨szl rfl, fun t ht => ⟨_, .inl (.inl upd_same), rfl, _, _, rfl, _, _, rfl, _, _, rfl, _, _, rfl, rfl, rr _ _ ?_⟩⟩⟩
    have a1 := (Same.refl H).nw (o := .dK []) hS
    have a2 := a1.nw (o := .dK []) hO
    have b2 := (Same.refl (upd H S (.dK []))).nw (o := .dK []) hO
    have a3 := a2.nw (o := .lst []) hE
    have b3 := (Same.refl (upd (upd H S (.dK [])) O (.dK []))).nw (o := .lst []) hE
    have b4 := (Same.refl (upd (upd (upd H S (.dK [])) O (.dK [])) E (.lst []))).nw (o := .tup [V.ref S, V.ref O, V.ref E, V.int 0]) ht
    exact ⟨S, O, E, hS, a1.free hO, a2.free hE, (fun z => by rw [← z, upd_same] at hO; cases hO), a3.nw ht, b4 _ _ (b3 _ _ (b2 _ _ upd_same)), b4 _ _ (b3 _ _ upd_same), b4 _ _ upd_same, rfl⟩
  rintro _ H1 ⟨S, O, E0, hS, hO, hE, nSO, s1, eS, eO, eE, rfl⟩
  refine sasg_cut (Src := fun v H2 => ∃ N, v = .ref N ∧ StD H lw S O E0 N ∧ StS K H lw S O E0 N [] [] H2) (fun R rr => ?_) ?_
  · simp only [tSl, tPart, tNoPart, tCKw, tVals, gStar, gCons, gNil, StX.tStar, tFmtS, tFmtI, tM0, tJs, tM1, rNewStrs, tMatch, setAll, lit_to, lit_page, lit_section, lit_gone, lit_exact, lit_open, tSeq, tAsg, tIfS, tRet, tRetN, tDrop, tNext, tNever, tOr, tAnd, tNot, tB, tTest, tCB, tCons, tVar, tC, tNil, tOp, tUn, tIf, tAndV, tOrV, tNotV, tChain, tTup, tLst, tCallR, tMethN, tMakeN, tPropN, tYes, gName, cx_K, cx_P, cx_w, rI0, rI, rEq, rNe, List.getElem?_cons_zero, List.getElem?_cons_succ, List.set_cons_zero, List.set_cons_succ, Option.some.injEq, exists_eq_left', exists_eq_left, V.bl.injEq, V.int.injEq, V.str.injEq, V.ref.injEq, List.cons.injEq, and_true, true_and, exists_and_left, and_assoc, List.append_nil]
    refine ⟨szl rfl, fun N hN => rr _ _ ⟨N, rfl, ⟨hS, hO, hE, s1.free hN, wn, nSO, fun z => by rw [← z, eE] at hN; cases hN⟩, ?_⟩⟩
    have s2 := (Same.refl H1).nw (o := .lst (nmW.map vW)) hN
    have eN : ([V.str (Str.ofString "home"), V.str (Str.ofString "s"), V.str (Str.ofString "news"), V.str (Str.ofString "t"), V.str (Str.ofString "old")] : List V) = nmW.map vW := by decide +kernel
    rw [eN]
    exact ⟨(s1.trans s2).sb lw, hw.same (s1.trans s2), ⟨[], s2 _ _ eS, .nil⟩, s2 _ _ eO, ⟨[], s2 _ _ eE, .nil⟩, upd_same⟩
  rintro _ H2 ⟨N, rfl, D, St⟩
  refine seq_cut (Src := fun σ H3 => ∃ es l d o7 o8 o9 o10 o11 o12 o13 o14, σ = [some (.ref lw), some (.int (m : Int)), some (.ref S), some (.ref O), some (.ref E0), some (.int ((d : Nat) : Int)), some (.ref N), o7, o8, o9, o10, o11, o12, o13, o14] ∧ StS K H lw S O E0 N es l H3 ∧ Hst m es l d ∧ d ≤ 5 * m ∧ ∀ e ∈ es, LEv e) (fun R rr => ?_) ?_
  · refine tFor_cut (Src := fun J H3 => ∃ j, J = Itr 0 j ∧ j ≤ m ∧ StS K H lw S O E0 N [] [] H3) (fun R r => ?_) ?_
    · simp only [tSl, tPart, tNoPart, tCKw, tVals, gStar, gCons, gNil, StX.tStar, tFmtS, tFmtI, tM0, tJs, tM1, rNewStrs, tMatch, setAll, lit_to, lit_page, lit_section, lit_gone, lit_exact, lit_open, tSeq, tAsg, tIfS, tRet, tRetN, tDrop, tNext, tNever, tOr, tAnd, tNot, tB, tTest, tCB, tCons, tVar, tC, tNil, tOp, tUn, tIf, tAndV, tOrV, tNotV, tChain, tTup, tLst, tCallR, tMethN, tMakeN, tPropN, tYes, gName, cx_K, cx_P, cx_w, rI0, rI, rEq, rNe, List.getElem?_cons_zero, List.getElem?_cons_succ, List.set_cons_zero, List.set_cons_succ, Option.some.injEq, exists_eq_left', exists_eq_left, V.bl.injEq, V.int.injEq, V.str.injEq, V.ref.injEq, List.cons.injEq, and_true, true_and, exists_and_left, and_assoc, List.append_nil, iRng1]
      refine ⟨_, _, rfl, lw, m + 1, rfl, rfl, by omega, by omega, St.wl, fun j H3 hj s3 hw3 => ⟨j, rfl, by omega, by omega, r _ _ ⟨j, by rw [Int.toNat_natCast], by omega, St.wel D s3 hw3⟩⟩⟩
    rintro J H3 ⟨j, rfl, hj, St3⟩
    refine tFor_w walk_range (fun R r => r) (fun i σ H3 => ∃ es l d o7 o8 o9 o10 o11 o12 o13 o14, σ = [some (.ref lw), some (.int (m : Int)), some (.ref S), some (.ref O), some (.ref E0), some (.int ((d : Nat) : Int)), some (.ref N), o7, o8, o9, o10, o11, o12, o13, o14] ∧ StS K H lw S O E0 N es l H3 ∧ Hst i es l d ∧ d ≤ 5 * i ∧ (∀ e ∈ es, LEv e) ∧ LOk i l)
      ⟨[], [], 0, _, _, _, _, _, _, _, _, rfl, St3, Hst.nil 0, Nat.zero_le _, (fun _ z => nomatch z), LOk.nil⟩ (fun _ _ _ _ _ => trivial) ?_ ?_
    · rintro i x σ H4 H5 hi ⟨es, l, d, o7, o8, o9, o10, o11, o12, o13, o14, rfl, St4, hh, hd, hev, hlk⟩ ⟨rfl, rfl⟩
      have hlen := hlk.1
      refine sasg_cut (Src := fun v H6 => ∃ c : Nat, c ≤ 5 ∧ v = .int ((d + c : Nat) : Int) ∧ StS K H lw S O E0 N es l H6) (fun R r => ?_) ?_
      · simp only [tSl, tPart, tNoPart, tCKw, tVals, gStar, gCons, gNil, StX.tStar, tFmtS, tFmtI, tM0, tJs, tM1, rNewStrs, tMatch, setAll, lit_to, lit_page, lit_section, lit_gone, lit_exact, lit_open, tSeq, tAsg, tIfS, tRet, tRetN, tDrop, tNext, tNever, tOr, tAnd, tNot, tB, tTest, tCB, tCons, tVar, tC, tNil, tOp, tUn, tIf, tAndV, tOrV, tNotV, tChain, tTup, tLst, tCallR, tMethN, tMakeN, tPropN, tYes, gName, cx_K, cx_P, cx_w, rI0, rI, rEq, rNe, List.getElem?_cons_zero, List.getElem?_cons_succ, List.set_cons_zero, List.set_cons_succ, Option.some.injEq, exists_eq_left', exists_eq_left, V.bl.injEq, V.int.injEq, V.str.injEq, V.ref.injEq, List.cons.injEq, and_true, true_and, exists_and_left, and_assoc, List.append_nil]
        refine ⟨szl rfl, fun p hp => ⟨_, _, rfl, lw, p, _, rfl, rfl, (St4.same ((Same.refl _).nw hp)).wl, upd_same, List.cons_ne_nil _ _, by decide, fun y H6 hy s6 hw6 => ?_⟩⟩
        obtain ⟨c, hc5, rfl⟩ : ∃ c : Nat, c ≤ 5 ∧ y = .int (c : Int) := by
          simp only [List.mem_cons, List.not_mem_nil, or_false] at hy
          rcases hy with rfl | rfl | rfl | rfl
          · exact ⟨0, by decide, rfl⟩
          · exact ⟨0, by decide, rfl⟩
          · exact ⟨1, by decide, rfl⟩
          · exact ⟨5, by decide, rfl⟩
        exact ⟨_, rfl, r _ _ ⟨c, hc5, by rw [Int.natCast_add], (St4.same ((Same.refl _).nw hp)).wel D s6 hw6⟩⟩
      rintro _ H6 ⟨c, hc5, rfl, St6⟩
      have hh6 := hh.later (show d ≤ d + c by omega)
      have hd6 : d + c ≤ 5 * (i + 1) := by omega
      have hdm : d + c ≤ 1000000 := by omega
      generalize d + c = d' at *
      clear hh hd St4
      refine sasg_cut (Src := fun v H7 => ∃ q, OkL 2 q ∧ AdAt K H7 v q ∧ StS K H lw S O E0 N es l H7) (fun R r => ?_) ?_
      · simp only [tSl, tPart, tNoPart, tCKw, tVals, gStar, gCons, gNil, StX.tStar, tFmtS, tFmtI, tM0, tJs, tM1, rNewStrs, tMatch, setAll, lit_to, lit_page, lit_section, lit_gone, lit_exact, lit_open, tSeq, tAsg, tIfS, tRet, tRetN, tDrop, tNext, tNever, tOr, tAnd, tNot, tB, tTest, tCB, tCons, tVar, tC, tNil, tOp, tUn, tIf, tAndV, tOrV, tNotV, tChain, tTup, tLst, tCallR, tMethN, tMakeN, tPropN, tYes, gName, cx_K, cx_P, cx_w, rI0, rI, rEq, rNe, List.getElem?_cons_zero, List.getElem?_cons_succ, List.set_cons_zero, List.set_cons_succ, Option.some.injEq, exists_eq_left', exists_eq_left, V.bl.injEq, V.int.injEq, V.str.injEq, V.ref.injEq, List.cons.injEq, and_true, true_and, exists_and_left, and_assoc, List.append_nil]
        exact ⟨_, _, rfl, lw, 2, rfl, rfl, by decide, St6.wl, fun u a H7 oka s7 hw7 ha => r _ _ ⟨a, oka, ha, St6.wel D s7 hw7⟩⟩
      rintro pv H7 ⟨q, okq, hq, St7⟩
      refine seq_cut (Src := fun σ H8 => ∃ (way : Nat) (n : Wd), n ∈ nmW ∧ σ = [some (.ref lw), some (.int (m : Int)), some (.ref S), some (.ref O), some (.ref E0), some (.int ((d' : Nat) : Int)), some (.ref N), some (.int (0 + (i : Int))), some pv, some (.int (way : Int)), some (vW n), o11, o12, o13, o14] ∧ StS K H lw S O E0 N es l H8 ∧ AdAt K H8 pv q) (fun R r => ?_) ?_
      · simp only [tSl, tPart, tNoPart, tCKw, tVals, gStar, gCons, gNil, StX.tStar, tFmtS, tFmtI, tM0, tJs, tM1, rNewStrs, tMatch, setAll, lit_to, lit_page, lit_section, lit_gone, lit_exact, lit_open, tSeq, tAsg, tIfS, tRet, tRetN, tDrop, tNext, tNever, tOr, tAnd, tNot, tB, tTest, tCB, tCons, tVar, tC, tNil, tOp, tUn, tIf, tAndV, tOrV, tNotV, tChain, tTup, tLst, tCallR, tMethN, tMakeN, tPropN, tYes, gName, cx_K, cx_P, cx_w, rI0, rI, rEq, rNe, List.getElem?_cons_zero, List.getElem?_cons_succ, List.set_cons_zero, List.set_cons_succ, Option.some.injEq, exists_eq_left', exists_eq_left, V.bl.injEq, V.int.injEq, V.str.injEq, V.ref.injEq, List.cons.injEq, and_true, true_and, exists_and_left, and_assoc, List.append_nil, gTup, gCons, gNil]
        refine ⟨_, _, rfl, lw, 6, rfl, rfl, by decide, by decide, St7.wl, fun way H8 _ s8 hw8 => ?_⟩
        have St8 := St7.wel D s8 hw8
        have hq8 := hq.kt (St7.kw s8)
        refine ⟨_, _, rfl, lw, N, _, rfl, rfl, hw8, St8.nm, List.cons_ne_nil _ _, by decide, fun y H9 hy s9 hw9 => ⟨szl rfl, fun t ht => ⟨_, .inl (.inl upd_same), rfl, _, _, rfl, _, _, rfl, rfl, ?_⟩⟩⟩
        obtain ⟨n, hn, rfl⟩ := List.mem_map.mp hy
        have t9 := (Same.refl H9).nw (o := .tup [.int (way : Int), vW n]) ht
        exact r _ _ ⟨way, n, hn, rfl, (St8.wel D s9 hw9).same t9, (hq8.kt (St8.kw s9)).mono t9⟩
      rintro _ H8 ⟨way, n, hn, rfl, St8, hq8⟩
      have okn := nmW_ok n hn
      have okp := okq.ok (show 2 ≤ 4 by decide)
      refine sasg_cut (Src := fun v H9 => ∃ F, v = .ref F ∧ Ap H lw S O E0 N F ∧ Bd K H lw S O E0 N F es (SS.nil.doAll es).so l pv q (fun _ => true) H9) (fun R r => ?_) ?_
      · simp only [tSl, tPart, tNoPart, tCKw, tVals, gStar, gCons, gNil, StX.tStar, tFmtS, tFmtI, tM0, tJs, tM1, rNewStrs, tMatch, setAll, lit_to, lit_page, lit_section, lit_gone, lit_exact, lit_open, tSeq, tAsg, tIfS, tRet, tRetN, tDrop, tNext, tNever, tOr, tAnd, tNot, tB, tTest, tCB, tCons, tVar, tC, tNil, tOp, tUn, tIf, tAndV, tOrV, tNotV, tChain, tTup, tLst, tCallR, tMethN, tMakeN, tPropN, tYes, gName, cx_K, cx_P, cx_w, rI0, rI, rEq, rNe, List.getElem?_cons_zero, List.getElem?_cons_succ, List.set_cons_zero, List.set_cons_succ, Option.some.injEq, exists_eq_left', exists_eq_left, V.bl.injEq, V.int.injEq, V.str.injEq, V.ref.injEq, List.cons.injEq, and_true, true_and, exists_and_left, and_assoc, List.append_nil, tDisp, tPairs]
        intro F hF
        refine ⟨upd_same, [(kW sPage, .bl true), (kW sSection, .bl true)], rfl, show 2 ≤ 15 by decide, ?_⟩
        rw [show mergeK [] [(kW sPage, V.bl true), (kW sSection, V.bl true)] = frK (fun _ => true) by simp [mergeK, putK, kPS, frK], upd_upd]
        have t9 := (Same.refl H8).nw (o := .dK (frK fun _ => true)) hF
        exact r _ _ ⟨F, rfl, St8.ap D hF, St8.same t9, hq8.mono t9, upd_same⟩
      rintro _ H9 ⟨F, rfl, Af, B9⟩
      clear St6 St7 St8 hq hq8
      refine seq_cut (Src := fun σ H10 => ∃ (fr : Bool → Bool) (x : Option V), σ = [some (.ref lw), some (.int (m : Int)), some (.ref S), some (.ref O), some (.ref E0), some (.int ((d' : Nat) : Int)), some (.ref N), some (.int (0 + (i : Int))), some pv, some (.int (way : Int)), some (vW n), some (.ref F), x, o13, o14] ∧ Bd K H lw S O E0 N F es (SS.nil.doAll es).so l pv q fr H10 ∧ FrOk l (SS.nil.doAll es).so q l.length fr) (fun R r => ?_) ?_
      · obtain ⟨ks, eS9, hks⟩ := B9.st.sp
        have hkl := Paired.length hks
        refine ⟨S, .dK ks, eS9, trivial, fun od => ?_⟩
        have ktf : KeepT H9 (upd H9 S (.frz od (.dK ks))) := B9.st.ktS
        have eFf := (upd_ne (H := H9) (o := .frz od (.dK ks)) Af.s).trans B9.fr
        have eOf := (upd_ne (H := H9) (o := .frz od (.dK ks)) D.so.symm).trans B9.st.so
        have eSf := upd_same (H := H9) (a := S) (o := .frz od (.dK ks))
        have hqf := B9.ad.kt ktf
        have hksf := hks.kt ktf
        have bk : ∀ b u, b ≠ S → H9 b = some u → upd H9 S (.frz od (.dK ks)) b = some u := fun b u n e => (upd_ne n).trans e
        have ab := @upd_same H9 S (.frz od (.dK ks))
        generalize upd H9 S (.frz od (.dK ks)) = Hf at *
        refine tFor_w (walk_keys (d := S) (o := od) (kvs := ks)) (fun R r => ⟨_, rfl, S, od, rfl, .inl ⟨ks, eSf, r⟩⟩) (fun j σ H' => (∃ x, σ = [some (.ref lw), some (.int (m : Int)), some (.ref S), some (.ref O), some (.ref E0), some (.int ((d' : Nat) : Int)), some (.ref N), some (.int (0 + (i : Int))), some pv, some (.int (way : Int)), some (vW n), some (.ref F), x, o13, o14]) ∧ SameB F Hf H' ∧ ∃ fr, H' F = some (.dK (frK fr)) ∧ FrOk l (SS.nil.doAll es).so q j fr)
          ⟨⟨_, rfl⟩, SameB.refl _ _, _, eFf, FrOk.nil⟩ (fun j σ H' _ z => z.2.1 _ _ Af.s.symm eSf) ?_ ?_
        · rintro j x σ Ha Hb hj ⟨⟨u, rfl⟩, sb, fr, eF, fo⟩ ⟨rfl, kk, vv, hkj, rfl⟩
          obtain ⟨⟨n', q'⟩, hlj, hk1, _⟩ := paired_get hksf hkj
          have hk1 : kk = kW n' := hk1
          subst hk1
          have hmem := List.mem_of_getElem? hlj
          have hg : aget l n' = some q' := aget_of_mem hh6.nl hmem
          have ktb : KeepT Hf Hb := sb.kt eFf trivial
          obtain ⟨v', hv', ha'⟩ := spAt_val (hksf.kt ktb) hg
          have okq' : OkA q' := by
            have := hh6.look n'
            rw [hg] at this
            exact hh6.can.last.okP _ (aget_mem this.symm)
          obtain ⟨t, ht⟩ : ∃ t, aget (SS.nil.doAll es).so n' = some t := Option.isSome_iff_exists.mp (hh6.sn n' (by rw [← hh6.look n', hg]; rfl))
          have dS : DGet Hb S (vW n') (some v') := .inl ⟨ks, kW n', .inr ⟨od, sb _ _ Af.s.symm eSf⟩, rfl, hv'.symm⟩
          by_cases hqq : q' = q
          · refine if_yes (fun R r => ?_) fun H3 s3 => ?_
            · simp only [tSl, tPart, tNoPart, tCKw, tVals, gStar, gCons, gNil, StX.tStar, tFmtS, tFmtI, tM0, tJs, tM1, rNewStrs, tMatch, setAll, lit_to, lit_page, lit_section, lit_gone, lit_exact, lit_open, tSeq, tAsg, tIfS, tRet, tRetN, tDrop, tNext, tNever, tOr, tAnd, tNot, tB, tTest, tCB, tCons, tVar, tC, tNil, tOp, tUn, tIf, tAndV, tOrV, tNotV, tChain, tTup, tLst, tCallR, tMethN, tMakeN, tPropN, tYes, gName, cx_K, cx_P, cx_w, rI0, rI, rEq, rNe, List.getElem?_cons_zero, List.getElem?_cons_succ, List.set_cons_zero, List.set_cons_succ, Option.some.injEq, exists_eq_left', exists_eq_left, V.bl.injEq, V.int.injEq, V.str.injEq, V.ref.injEq, List.cons.injEq, and_true, true_and, exists_and_left, and_assoc, List.append_nil, tDGet]
              refine ⟨v', dS, dA q', dA q, ha'.dp, (hqf.kt ktb).dp, shaped_A okq'.ok, shaped_A okp.ok, true, ?_, r Hb (Same.refl _)⟩
              rw [eqv_A, decide_eq_true hqq]
            · simp only [tSl, tPart, tNoPart, tCKw, tVals, gStar, gCons, gNil, StX.tStar, tFmtS, tFmtI, tM0, tJs, tM1, rNewStrs, tMatch, setAll, lit_to, lit_page, lit_section, lit_gone, lit_exact, lit_open, tSeq, tAsg, tIfS, tRet, tRetN, tDrop, tNext, tNever, tOr, tAnd, tNot, tB, tTest, tCB, tCons, tVar, tC, tNil, tOp, tUn, tIf, tAndV, tOrV, tNotV, tChain, tTup, tLst, tCallR, tMethN, tMakeN, tPropN, tYes, gName, cx_K, cx_P, cx_w, rI0, rI, rEq, rNe, List.getElem?_cons_zero, List.getElem?_cons_succ, List.set_cons_zero, List.set_cons_succ, Option.some.injEq, exists_eq_left', exists_eq_left, V.bl.injEq, V.int.injEq, V.str.injEq, V.ref.injEq, List.cons.injEq, and_true, true_and, exists_and_left, and_assoc, List.append_nil, tDGet, sDPut]
              have eF3 := s3 _ _ eF
              refine ⟨_, dget_so (s3 _ _ (sb _ _ Af.o.symm eOf)) ht, _, dput_fr eF3 t false, ⟨_, rfl⟩, sb.trans ((s3.sb F).trans (SameB.refl F H3).self), _, upd_same, fo.yes hlj ht⟩
          · refine if_no (fun R r => ?_) fun H3 s3 => ?_
            · simp only [tSl, tPart, tNoPart, tCKw, tVals, gStar, gCons, gNil, StX.tStar, tFmtS, tFmtI, tM0, tJs, tM1, rNewStrs, tMatch, setAll, lit_to, lit_page, lit_section, lit_gone, lit_exact, lit_open, tSeq, tAsg, tIfS, tRet, tRetN, tDrop, tNext, tNever, tOr, tAnd, tNot, tB, tTest, tCB, tCons, tVar, tC, tNil, tOp, tUn, tIf, tAndV, tOrV, tNotV, tChain, tTup, tLst, tCallR, tMethN, tMakeN, tPropN, tYes, gName, cx_K, cx_P, cx_w, rI0, rI, rEq, rNe, List.getElem?_cons_zero, List.getElem?_cons_succ, List.set_cons_zero, List.set_cons_succ, Option.some.injEq, exists_eq_left', exists_eq_left, V.bl.injEq, V.int.injEq, V.str.injEq, V.ref.injEq, List.cons.injEq, and_true, true_and, exists_and_left, and_assoc, List.append_nil, tDGet]
              refine ⟨v', dS, dA q', dA q, ha'.dp, (hqf.kt ktb).dp, shaped_A okq'.ok, shaped_A okp.ok, false, ?_, r Hb (Same.refl _)⟩
              rw [eqv_A, decide_eq_false hqq]
            · simp only [tSl, tPart, tNoPart, tCKw, tVals, gStar, gCons, gNil, StX.tStar, tFmtS, tFmtI, tM0, tJs, tM1, rNewStrs, tMatch, setAll, lit_to, lit_page, lit_section, lit_gone, lit_exact, lit_open, tSeq, tAsg, tIfS, tRet, tRetN, tDrop, tNext, tNever, tOr, tAnd, tNot, tB, tTest, tCB, tCons, tVar, tC, tNil, tOp, tUn, tIf, tAndV, tOrV, tNotV, tChain, tTup, tLst, tCallR, tMethN, tMakeN, tPropN, tYes, gName, cx_K, cx_P, cx_w, rI0, rI, rEq, rNe, List.getElem?_cons_zero, List.getElem?_cons_succ, List.set_cons_zero, List.set_cons_succ, Option.some.injEq, exists_eq_left', exists_eq_left, V.bl.injEq, V.int.injEq, V.str.injEq, V.ref.injEq, List.cons.injEq, and_true, true_and, exists_and_left, and_assoc, List.append_nil, tDGet, sDPut]
              exact ⟨⟨_, rfl⟩, sb.trans (s3.sb F), _, s3 _ _ eF, fo.no hlj hqq⟩
        · rintro σ Hb ⟨⟨u, rfl⟩, sb, fr, eF, fo⟩
          have sbF : SameB F H9 (upd Hb S (.dK ks)) := fun b u n e => by
            by_cases hb : b = S
            · rw [hb, upd_same]
              rw [hb, eS9] at e
              exact e
            · exact (upd_ne hb).trans (sb b u n (bk b u hb e))
          have kt9 : KeepT H9 (upd Hb S (.dK ks)) := sbF.kt B9.fr trivial
          refine ⟨sb _ _ Af.s.symm eSf, r _ _ ⟨fr, _, rfl, ⟨B9.st.off Af sbF kt9, B9.ad.kt kt9, (upd_ne Af.s).trans eF⟩, ?_⟩⟩
          rw [hkl] at fo
          exact fo
      rintro _ H10 ⟨fr, x12, rfl, B10, fo⟩
      clear B9
      have nx : ∀ (es' : List Ev) (l' : List (Wd × Ad)) (H' : Hp), StS K H lw S O E0 N es' l' H' → Hst (i + 1) es' l' d' → (∀ e ∈ es', LEv e) → LOk (i + 1) l' → ∃ (es : List Ev) (l : List (Wd × Ad)) (d : Nat), (d' : Int) = (d : Int) ∧ StS K H lw S O E0 N es l H' ∧ Hst (i + 1) es l d ∧ d ≤ 5 * (i + 1) ∧ (∀ e ∈ es, LEv e) ∧ LOk (i + 1) l :=
        fun es' l' H' h1 h2 h3 h4 => ⟨es', l', d', rfl, h1, h2, hd6, h3, h4⟩
      have hi40 : i < 40 := by omega
      have lev : ∀ e, LEv e → ∀ x ∈ es ++ [e], LEv x := fun e he x hx => (List.mem_append.mp hx).elim (fun z => hev x z) fun z => by rw [List.mem_singleton.mp z]; exact he
      have hel : ∀ {es' : List Ev} {so' : List (Wd × Bool)} {l' : List (Wd × Ad)} {H' : Hp}, es' = es → StG K H lw S O E0 N es' so' l' H' → ∃ xs, H' E0 = some (.lst xs) ∧ xs.length < sizeLine := fun he h => by
        obtain ⟨xs, e, p⟩ := h.el
        have h1 := hh6.sz.e
        rw [hh6.ev, ← he] at h1
        exact ⟨xs, e, Nat.lt_of_lt_of_le (show xs.length < 1000 by omega) (by decide)⟩
      have sol : ∀ {l' : List (Wd × Ad)} {H' : Hp}, StG K H lw S O E0 N es (SS.nil.doAll es).so l' H' → (soK (SS.nil.doAll es).so).length < sizeLine := fun _ => by
        have := hh6.sz.s
        unfold soK
        rw [List.length_map]
        exact Nat.lt_of_lt_of_le (show _ < 1000 by omega) (by decide)
      have hll : l.length ≤ 1000 := by omega
      have spl : ∀ {ks : List (Key × V)} {H' : Hp}, SpAt K H' ks l → ks.length < sizeLine := fun h => by
        rw [Paired.length h]
        exact Nat.lt_of_lt_of_le (Nat.lt_succ_of_le hll) (by decide)
      cases hso : aget (SS.nil.doAll es).so n with
      | none =>
        refine if_yes (fun R r => ?_) fun H11 s11 => ?_
        · simp only [tSl, tPart, tNoPart, tCKw, tVals, gStar, gCons, gNil, StX.tStar, tFmtS, tFmtI, tM0, tJs, tM1, rNewStrs, tMatch, setAll, lit_to, lit_page, lit_section, lit_gone, lit_exact, lit_open, tSeq, tAsg, tIfS, tRet, tRetN, tDrop, tNext, tNever, tOr, tAnd, tNot, tB, tTest, tCB, tCons, tVar, tC, tNil, tOp, tUn, tIf, tAndV, tOrV, tNotV, tChain, tTup, tLst, tCallR, tMethN, tMakeN, tPropN, tYes, gName, cx_K, cx_P, cx_w, rI0, rI, rEq, rNe, List.getElem?_cons_zero, List.getElem?_cons_succ, List.set_cons_zero, List.set_cons_succ, Option.some.injEq, exists_eq_left', exists_eq_left, V.bl.injEq, V.int.injEq, V.str.injEq, V.ref.injEq, List.cons.injEq, and_true, true_and, exists_and_left, and_assoc, List.append_nil, tDNotIn]
          exact ⟨none, dget_so0 B10.st.so hso, r _ (Same.refl _)⟩
        have B11 := B10.same s11
        refine sasg_cut (Src := fun v H12 => ∃ s, v = vW (sortN s) ∧ Bd K H lw S O E0 N F es (SS.nil.doAll es).so l pv q fr H12) (fun R r => ?_) ?_
        · simp only [tSl, tPart, tNoPart, tCKw, tVals, gStar, gCons, gNil, StX.tStar, tFmtS, tFmtI, tM0, tJs, tM1, rNewStrs, tMatch, setAll, lit_to, lit_page, lit_section, lit_gone, lit_exact, lit_open, tSeq, tAsg, tIfS, tRet, tRetN, tDrop, tNext, tNever, tOr, tAnd, tNot, tB, tTest, tCB, tCons, tVar, tC, tNil, tOp, tUn, tIf, tAndV, tOrV, tNotV, tChain, tTup, tLst, tCallR, tMethN, tMakeN, tPropN, tYes, gName, cx_K, cx_P, cx_w, rI0, rI, rEq, rNe, List.getElem?_cons_zero, List.getElem?_cons_succ, List.set_cons_zero, List.set_cons_succ, Option.some.injEq, exists_eq_left', exists_eq_left, V.bl.injEq, V.int.injEq, V.str.injEq, V.ref.injEq, List.cons.injEq, and_true, true_and, exists_and_left, and_assoc, List.append_nil]
          refine ⟨szl rfl, fun p hp => ⟨_, _, rfl, lw, p, _, rfl, rfl, (B11.same ((Same.refl _).nw hp)).st.wl, upd_same, List.cons_ne_nil _ _, by decide, fun y H12 hy s12 hw12 => ?_⟩⟩
          have B12 := (B11.same ((Same.refl _).nw hp)).wel D Af s12 hw12
          simp only [List.mem_cons, List.not_mem_nil, or_false] at hy
          rcases hy with rfl | rfl
          · exact r _ _ ⟨false, rfl, B12⟩
          · exact r _ _ ⟨true, rfl, B12⟩
        rintro _ H12 ⟨s, rfl, B12⟩
        cases hf : fr s with
        | false =>
          refine if_no (fun R r => ?_) fun H13 s13 => ?_
          · simp only [tSl, tPart, tNoPart, tCKw, tVals, gStar, gCons, gNil, StX.tStar, tFmtS, tFmtI, tM0, tJs, tM1, rNewStrs, tMatch, setAll, lit_to, lit_page, lit_section, lit_gone, lit_exact, lit_open, tSeq, tAsg, tIfS, tRet, tRetN, tDrop, tNext, tNever, tOr, tAnd, tNot, tB, tTest, tCB, tCons, tVar, tC, tNil, tOp, tUn, tIf, tAndV, tOrV, tNotV, tChain, tTup, tLst, tCallR, tMethN, tMakeN, tPropN, tYes, gName, cx_K, cx_P, cx_w, rI0, rI, rEq, rNe, List.getElem?_cons_zero, List.getElem?_cons_succ, List.set_cons_zero, List.set_cons_succ, Option.some.injEq, exists_eq_left', exists_eq_left, V.bl.injEq, V.int.injEq, V.str.injEq, V.ref.injEq, List.cons.injEq, and_true, true_and, exists_and_left, and_assoc, List.append_nil, tDGet]
            refine ⟨_, dget_fr B12.fr s, _, rfl, ?_⟩
            rw [hf]
            exact r _ (Same.refl _)
          · simp only [tSl, tPart, tNoPart, tCKw, tVals, gStar, gCons, gNil, StX.tStar, tFmtS, tFmtI, tM0, tJs, tM1, rNewStrs, tMatch, setAll, lit_to, lit_page, lit_section, lit_gone, lit_exact, lit_open, tSeq, tAsg, tIfS, tRet, tRetN, tDrop, tNext, tNever, tOr, tAnd, tNot, tB, tTest, tCB, tCons, tVar, tC, tNil, tOp, tUn, tIf, tAndV, tOrV, tNotV, tChain, tTup, tLst, tCallR, tMethN, tMakeN, tPropN, tYes, gName, cx_K, cx_P, cx_w, rI0, rI, rEq, rNe, List.getElem?_cons_zero, List.getElem?_cons_succ, List.set_cons_zero, List.set_cons_succ, Option.some.injEq, exists_eq_left', exists_eq_left, V.bl.injEq, V.int.injEq, V.str.injEq, V.ref.injEq, List.cons.injEq, and_true, true_and, exists_and_left, and_assoc, List.append_nil]
            exact nx es l H13 (B12.st.same s13) (hh6.up (Nat.le_succ i)) hev hlk.up
        | true =>
          refine if_yes (fun R r => ?_) fun H13 s13 => ?_
          · simp only [tSl, tPart, tNoPart, tCKw, tVals, gStar, gCons, gNil, StX.tStar, tFmtS, tFmtI, tM0, tJs, tM1, rNewStrs, tMatch, setAll, lit_to, lit_page, lit_section, lit_gone, lit_exact, lit_open, tSeq, tAsg, tIfS, tRet, tRetN, tDrop, tNext, tNever, tOr, tAnd, tNot, tB, tTest, tCB, tCons, tVar, tC, tNil, tOp, tUn, tIf, tAndV, tOrV, tNotV, tChain, tTup, tLst, tCallR, tMethN, tMakeN, tPropN, tYes, gName, cx_K, cx_P, cx_w, rI0, rI, rEq, rNe, List.getElem?_cons_zero, List.getElem?_cons_succ, List.set_cons_zero, List.set_cons_succ, Option.some.injEq, exists_eq_left', exists_eq_left, V.bl.injEq, V.int.injEq, V.str.injEq, V.ref.injEq, List.cons.injEq, and_true, true_and, exists_and_left, and_assoc, List.append_nil, tDGet]
            refine ⟨_, dget_fr B12.fr s, _, rfl, ?_⟩
            rw [hf]
            exact r _ (Same.refl _)
          have B13 := B12.same s13
          refine seq_cut (Src := fun σ H14 => σ = [some (.ref lw), some (.int (m : Int)), some (.ref S), some (.ref O), some (.ref E0), some (.int ((d' : Nat) : Int)), some (.ref N), some (.int (0 + (i : Int))), some pv, some (.int (way : Int)), some (vW n), some (.ref F), x12, some (vW (sortN s)), o14] ∧ Bd K H lw S O E0 N F es (aput (SS.nil.doAll es).so n s) (aput l n q) pv q fr H14) (fun R r => ?_) ?_
          · simp only [tSl, tPart, tNoPart, tCKw, tVals, gStar, gCons, gNil, StX.tStar, tFmtS, tFmtI, tM0, tJs, tM1, rNewStrs, tMatch, setAll, lit_to, lit_page, lit_section, lit_gone, lit_exact, lit_open, tSeq, tAsg, tIfS, tRet, tRetN, tDrop, tNext, tNever, tOr, tAnd, tNot, tB, tTest, tCB, tCons, tVar, tC, tNil, tOp, tUn, tIf, tAndV, tOrV, tNotV, tChain, tTup, tLst, tCallR, tMethN, tMakeN, tPropN, tYes, gName, cx_K, cx_P, cx_w, rI0, rI, rEq, rNe, List.getElem?_cons_zero, List.getElem?_cons_succ, List.set_cons_zero, List.set_cons_succ, Option.some.injEq, exists_eq_left', exists_eq_left, V.bl.injEq, V.int.injEq, V.str.injEq, V.ref.injEq, List.cons.injEq, and_true, true_and, exists_and_left, and_assoc, List.append_nil, gTup, gCons, gNil, gSub, rSetD]
            refine ⟨szl rfl, fun p hp => ⟨_, .inl (.inl upd_same), rfl, _, _, rfl, ?_⟩⟩
            have Bp := B13.same ((Same.refl _).nw (o := .tup [vW (sortN s), pv]) hp)
            generalize upd H13 p (.tup [vW (sortN s), pv]) = Hp at *
            refine ⟨_, .inl ⟨_, kW n, Bp.st.so, rfl, sol Bp.st, rfl⟩, _, _, rfl, ?_⟩
            rw [soK_put]
            have Bo := Bp.setO D Af (so' := aput (SS.nil.doAll es).so n s)
            obtain ⟨ks, eS, hks⟩ := Bo.st.sp
            exact ⟨_, .inl ⟨ks, kW n, eS, rfl, spl hks, rfl⟩, rfl, r _ _ ⟨rfl, Bo.setS D Af (spAt_put hks Bo.ad)⟩⟩
          rintro _ H14 ⟨rfl, B14⟩
          simp only [tSl, tPart, tNoPart, tCKw, tVals, gStar, gCons, gNil, StX.tStar, tFmtS, tFmtI, tM0, tJs, tM1, rNewStrs, tMatch, setAll, lit_to, lit_page, lit_section, lit_gone, lit_exact, lit_open, tSeq, tAsg, tIfS, tRet, tRetN, tDrop, tNext, tNever, tOr, tAnd, tNot, tB, tTest, tCB, tCons, tVar, tC, tNil, tOp, tUn, tIf, tAndV, tOrV, tNotV, tChain, tTup, tLst, tCallR, tMethN, tMakeN, tPropN, tYes, gName, cx_K, cx_P, cx_w, rI0, rI, rEq, rNe, List.getElem?_cons_zero, List.getElem?_cons_succ, List.set_cons_zero, List.set_cons_succ, Option.some.injEq, exists_eq_left', exists_eq_left, V.bl.injEq, V.int.injEq, V.str.injEq, V.ref.injEq, List.cons.injEq, and_true, true_and, exists_and_left, and_assoc, List.append_nil, tBM, rAppend]
          obtain ⟨xs, eE, hxl⟩ := hel rfl B14.st
          refine ⟨tyL eE, szl rfl, fun p hp => ?_⟩
          have ok : OkEv (.pl .put d' s n q) := ⟨hdm, okn, okp⟩
          have t5 := (Same.refl H14).nw (o := .tup [V.int (d' : Int), V.str (Str.ofString "put"), vW (sortN s), vW n, pv]) hp
          have B15 := B14.same t5
          have ep := upd_same (H := H14) (a := p) (o := .tup [V.int (d' : Int), V.str (Str.ofString "put"), vW (sortN s), vW n, pv])
          rw [lit_put] at *
          generalize upd H14 p (.tup [V.int (d' : Int), vW sPut, vW (sortN s), vW n, pv]) = H15 at *
          refine ⟨xs, t5 _ _ eE, hxl, nx (es ++ [.pl .put d' s n q]) (aput l n q) _ ?_ (hh6.put hi40 ok hso (fo.free hf)) (lev (.pl .put d' s n q) ⟨hn, okq⟩) (hlk.put hn)⟩
          have e1 : (SS.nil.doAll (es ++ [.pl .put d' s n q])).so = aput (SS.nil.doAll es).so n s := by rw [doAll_snoc]; rfl
          show StG _ _ _ _ _ _ _ _ _ _ _
          rw [e1]
          exact B15.st.addE D (t5 _ _ eE) ⟨p, pv, rfl, .inl (.inl ep), B15.ad⟩
      | some s0 =>
        refine if_no (fun R r => ?_) fun H11 s11 => ?_
        · simp only [tSl, tPart, tNoPart, tCKw, tVals, gStar, gCons, gNil, StX.tStar, tFmtS, tFmtI, tM0, tJs, tM1, rNewStrs, tMatch, setAll, lit_to, lit_page, lit_section, lit_gone, lit_exact, lit_open, tSeq, tAsg, tIfS, tRet, tRetN, tDrop, tNext, tNever, tOr, tAnd, tNot, tB, tTest, tCB, tCons, tVar, tC, tNil, tOp, tUn, tIf, tAndV, tOrV, tNotV, tChain, tTup, tLst, tCallR, tMethN, tMakeN, tPropN, tYes, gName, cx_K, cx_P, cx_w, rI0, rI, rEq, rNe, List.getElem?_cons_zero, List.getElem?_cons_succ, List.set_cons_zero, List.set_cons_succ, Option.some.injEq, exists_eq_left', exists_eq_left, V.bl.injEq, V.int.injEq, V.str.injEq, V.ref.injEq, List.cons.injEq, and_true, true_and, exists_and_left, and_assoc, List.append_nil, tDNotIn]
          exact ⟨_, dget_so B10.st.so hso, r _ (Same.refl _)⟩
        have B11 := B10.same s11
        have hsoW : ∀ {l' : List (Wd × Ad)} {H' : Hp}, StG K H lw S O E0 N es (SS.nil.doAll es).so l' H' → DGet H' O (vW n) (some (vW (sortN s0))) := fun h => dget_so h.so hso
        have plc : ∀ (vb : Vb) (x : String) (hx : V.str (Str.ofString x) = vW vb.w) (D' : Ends) (H12 : Hp), Bd K H lw S O E0 N F es (SS.nil.doAll es).so l pv q fr H12 → (fr s0 = true → Hst (i + 1) (es ++ [.pl vb d' s0 n q]) (aput l n q) d') → (SS.nil.doAll (es ++ [.pl vb d' s0 n q])).so = (SS.nil.doAll es).so →
            (∀ es' l' H', StS K H lw S O E0 N es' l' H' → Hst (i + 1) es' l' d' → (∀ e ∈ es', LEv e) → LOk (i + 1) l' → D'.nx [some (.ref lw), some (.int (m : Int)), some (.ref S), some (.ref O), some (.ref E0), some (.int ((d' : Nat) : Int)), some (.ref N), some (.int (0 + (i : Int))), some pv, some (.int (way : Int)), some (vW n), some (.ref F), x12, o13, o14] H') →
            tIfS (tB (tDGet (tVar 11) (tDGet (tVar 3) (tVar 10)))) (tSeq (sDPut (tVar 2) (tVar 10) (tVar 8)) (tDrop (tBM K "list" rAppend (tVar 4) (tCons (tTup (tCons (tVar 5) (tCons (tC (V.str (Str.ofString x))) (tCons (tDGet (tVar 3) (tVar 10)) (tCons (tVar 10) (tCons (tVar 8) tNil)))))) tNil)))) tNext D'
              [some (.ref lw), some (.int (m : Int)), some (.ref S), some (.ref O), some (.ref E0), some (.int ((d' : Nat) : Int)), some (.ref N), some (.int (0 + (i : Int))), some pv, some (.int (way : Int)), some (vW n), some (.ref F), x12, o13, o14] H12 := by
          intro vb x hx D' H12 B12 hput hsame hnx
          cases hf : fr s0 with
          | false =>
            refine if_no (fun R r => ?_) fun H13 s13 => ?_
            · simp only [tSl, tPart, tNoPart, tCKw, tVals, gStar, gCons, gNil, StX.tStar, tFmtS, tFmtI, tM0, tJs, tM1, rNewStrs, tMatch, setAll, lit_to, lit_page, lit_section, lit_gone, lit_exact, lit_open, tSeq, tAsg, tIfS, tRet, tRetN, tDrop, tNext, tNever, tOr, tAnd, tNot, tB, tTest, tCB, tCons, tVar, tC, tNil, tOp, tUn, tIf, tAndV, tOrV, tNotV, tChain, tTup, tLst, tCallR, tMethN, tMakeN, tPropN, tYes, gName, cx_K, cx_P, cx_w, rI0, rI, rEq, rNe, List.getElem?_cons_zero, List.getElem?_cons_succ, List.set_cons_zero, List.set_cons_succ, Option.some.injEq, exists_eq_left', exists_eq_left, V.bl.injEq, V.int.injEq, V.str.injEq, V.ref.injEq, List.cons.injEq, and_true, true_and, exists_and_left, and_assoc, List.append_nil, tDGet]
              refine ⟨_, hsoW B12.st, _, dget_fr B12.fr s0, _, rfl, ?_⟩
              rw [hf]
              exact r _ (Same.refl _)
            · exact hnx es l H13 (B12.st.same s13) (hh6.up (Nat.le_succ i)) hev hlk.up
          | true =>
            refine if_yes (fun R r => ?_) fun H13 s13 => ?_
            · simp only [tSl, tPart, tNoPart, tCKw, tVals, gStar, gCons, gNil, StX.tStar, tFmtS, tFmtI, tM0, tJs, tM1, rNewStrs, tMatch, setAll, lit_to, lit_page, lit_section, lit_gone, lit_exact, lit_open, tSeq, tAsg, tIfS, tRet, tRetN, tDrop, tNext, tNever, tOr, tAnd, tNot, tB, tTest, tCB, tCons, tVar, tC, tNil, tOp, tUn, tIf, tAndV, tOrV, tNotV, tChain, tTup, tLst, tCallR, tMethN, tMakeN, tPropN, tYes, gName, cx_K, cx_P, cx_w, rI0, rI, rEq, rNe, List.getElem?_cons_zero, List.getElem?_cons_succ, List.set_cons_zero, List.set_cons_succ, Option.some.injEq, exists_eq_left', exists_eq_left, V.bl.injEq, V.int.injEq, V.str.injEq, V.ref.injEq, List.cons.injEq, and_true, true_and, exists_and_left, and_assoc, List.append_nil, tDGet]
              refine ⟨_, hsoW B12.st, _, dget_fr B12.fr s0, _, rfl, ?_⟩
              rw [hf]
              exact r _ (Same.refl _)
            have B13 := B12.same s13
            refine seq_cut (Src := fun σ H14 => σ = [some (.ref lw), some (.int (m : Int)), some (.ref S), some (.ref O), some (.ref E0), some (.int ((d' : Nat) : Int)), some (.ref N), some (.int (0 + (i : Int))), some pv, some (.int (way : Int)), some (vW n), some (.ref F), x12, o13, o14] ∧ Bd K H lw S O E0 N F es (SS.nil.doAll es).so (aput l n q) pv q fr H14) (fun R r => ?_) ?_
            · simp only [tSl, tPart, tNoPart, tCKw, tVals, gStar, gCons, gNil, StX.tStar, tFmtS, tFmtI, tM0, tJs, tM1, rNewStrs, tMatch, setAll, lit_to, lit_page, lit_section, lit_gone, lit_exact, lit_open, tSeq, tAsg, tIfS, tRet, tRetN, tDrop, tNext, tNever, tOr, tAnd, tNot, tB, tTest, tCB, tCons, tVar, tC, tNil, tOp, tUn, tIf, tAndV, tOrV, tNotV, tChain, tTup, tLst, tCallR, tMethN, tMakeN, tPropN, tYes, gName, cx_K, cx_P, cx_w, rI0, rI, rEq, rNe, List.getElem?_cons_zero, List.getElem?_cons_succ, List.set_cons_zero, List.set_cons_succ, Option.some.injEq, exists_eq_left', exists_eq_left, V.bl.injEq, V.int.injEq, V.str.injEq, V.ref.injEq, List.cons.injEq, and_true, true_and, exists_and_left, and_assoc, List.append_nil, sDPut]
              obtain ⟨ks, eS, hks⟩ := B13.st.sp
              exact ⟨_, .inl ⟨ks, kW n, eS, rfl, spl hks, rfl⟩, r _ _ ⟨rfl, B13.setS D Af (spAt_put hks B13.ad)⟩⟩
            rintro _ H14 ⟨rfl, B14⟩
            simp only [tSl, tPart, tNoPart, tCKw, tVals, gStar, gCons, gNil, StX.tStar, tFmtS, tFmtI, tM0, tJs, tM1, rNewStrs, tMatch, setAll, lit_to, lit_page, lit_section, lit_gone, lit_exact, lit_open, tSeq, tAsg, tIfS, tRet, tRetN, tDrop, tNext, tNever, tOr, tAnd, tNot, tB, tTest, tCB, tCons, tVar, tC, tNil, tOp, tUn, tIf, tAndV, tOrV, tNotV, tChain, tTup, tLst, tCallR, tMethN, tMakeN, tPropN, tYes, gName, cx_K, cx_P, cx_w, rI0, rI, rEq, rNe, List.getElem?_cons_zero, List.getElem?_cons_succ, List.set_cons_zero, List.set_cons_succ, Option.some.injEq, exists_eq_left', exists_eq_left, V.bl.injEq, V.int.injEq, V.str.injEq, V.ref.injEq, List.cons.injEq, and_true, true_and, exists_and_left, and_assoc, List.append_nil, tBM, rAppend, tDGet]
            obtain ⟨xs, eE, hxl⟩ := hel rfl B14.st
            refine ⟨tyL eE, _, hsoW B14.st, szl rfl, fun p hp => ?_⟩
            have t5 := (Same.refl H14).nw (o := .tup [V.int (d' : Int), V.str (Str.ofString x), vW (sortN s0), vW n, pv]) hp
            have B15 := B14.same t5
            have ep := upd_same (H := H14) (a := p) (o := .tup [V.int (d' : Int), V.str (Str.ofString x), vW (sortN s0), vW n, pv])
            rw [hx] at *
            generalize upd H14 p (.tup [V.int (d' : Int), vW vb.w, vW (sortN s0), vW n, pv]) = H15 at *
            refine ⟨xs, t5 _ _ eE, hxl, hnx (es ++ [.pl vb d' s0 n q]) (aput l n q) _ ?_ (hput hf) (lev (.pl vb d' s0 n q) ⟨hn, okq⟩) (hlk.put hn)⟩
            show StG _ _ _ _ _ _ _ _ _ _ _
            rw [hsame]
            exact B15.st.addE D (t5 _ _ eE) ⟨p, pv, rfl, .inl (.inl ep), B15.ad⟩
        cases hst : aget l n with
        | none =>
          refine if_yes (fun R r => ?_) fun H12 s12 => ?_
          · simp only [tSl, tPart, tNoPart, tCKw, tVals, gStar, gCons, gNil, StX.tStar, tFmtS, tFmtI, tM0, tJs, tM1, rNewStrs, tMatch, setAll, lit_to, lit_page, lit_section, lit_gone, lit_exact, lit_open, tSeq, tAsg, tIfS, tRet, tRetN, tDrop, tNext, tNever, tOr, tAnd, tNot, tB, tTest, tCB, tCons, tVar, tC, tNil, tOp, tUn, tIf, tAndV, tOrV, tNotV, tChain, tTup, tLst, tCallR, tMethN, tMakeN, tPropN, tYes, gName, cx_K, cx_P, cx_w, rI0, rI, rEq, rNe, List.getElem?_cons_zero, List.getElem?_cons_succ, List.set_cons_zero, List.set_cons_succ, Option.some.injEq, exists_eq_left', exists_eq_left, V.bl.injEq, V.int.injEq, V.str.injEq, V.ref.injEq, List.cons.injEq, and_true, true_and, exists_and_left, and_assoc, List.append_nil, tDNotIn]
            obtain ⟨ks, eS, hks⟩ := B11.st.sp
            obtain ⟨o, g, ho⟩ := dget_sp (n := n) eS hks
            rw [hst] at ho
            cases o with
            | some => cases ho
            | none => exact ⟨none, g, r _ (Same.refl _)⟩
          exact plc .bring "bring" lit_bring _ H12 (B11.same s12) (fun hf => hh6.bring hi40 ⟨hdm, okn, okp⟩ hso hst (fo.free hf)) (by rw [doAll_snoc]; rfl) fun es' l' H' h1 h2 h3 h4 => ⟨es', l', d', _, _, _, _, _, _, _, _, rfl, h1, h2, hd6, h3, h4⟩
        | some q0 =>
          refine if_no (fun R r => ?_) fun H12 s12 => ?_
          · simp only [tSl, tPart, tNoPart, tCKw, tVals, gStar, gCons, gNil, StX.tStar, tFmtS, tFmtI, tM0, tJs, tM1, rNewStrs, tMatch, setAll, lit_to, lit_page, lit_section, lit_gone, lit_exact, lit_open, tSeq, tAsg, tIfS, tRet, tRetN, tDrop, tNext, tNever, tOr, tAnd, tNot, tB, tTest, tCB, tCons, tVar, tC, tNil, tOp, tUn, tIf, tAndV, tOrV, tNotV, tChain, tTup, tLst, tCallR, tMethN, tMakeN, tPropN, tYes, gName, cx_K, cx_P, cx_w, rI0, rI, rEq, rNe, List.getElem?_cons_zero, List.getElem?_cons_succ, List.set_cons_zero, List.set_cons_succ, Option.some.injEq, exists_eq_left', exists_eq_left, V.bl.injEq, V.int.injEq, V.str.injEq, V.ref.injEq, List.cons.injEq, and_true, true_and, exists_and_left, and_assoc, List.append_nil, tDNotIn]
            obtain ⟨ks, eS, hks⟩ := B11.st.sp
            obtain ⟨o, g, ho⟩ := dget_sp (n := n) eS hks
            rw [hst] at ho
            cases o with
            | none => cases ho
            | some v => exact ⟨some v, g, r _ (Same.refl _)⟩
          have B12 := B11.same s12
          have hst1 : (aget l n).isSome = true := by rw [hst]; rfl
          by_cases hw3 : way < 3
          · refine if_yes (fun R r => ?_) fun H13 s13 => ?_
            · simp only [tSl, tPart, tNoPart, tCKw, tVals, gStar, gCons, gNil, StX.tStar, tFmtS, tFmtI, tM0, tJs, tM1, rNewStrs, tMatch, setAll, lit_to, lit_page, lit_section, lit_gone, lit_exact, lit_open, tSeq, tAsg, tIfS, tRet, tRetN, tDrop, tNext, tNever, tOr, tAnd, tNot, tB, tTest, tCB, tCons, tVar, tC, tNil, tOp, tUn, tIf, tAndV, tOrV, tNotV, tChain, tTup, tLst, tCallR, tMethN, tMakeN, tPropN, tYes, gName, cx_K, cx_P, cx_w, rI0, rI, rEq, rNe, List.getElem?_cons_zero, List.getElem?_cons_succ, List.set_cons_zero, List.set_cons_succ, Option.some.injEq, exists_eq_left', exists_eq_left, V.bl.injEq, V.int.injEq, V.str.injEq, V.ref.injEq, List.cons.injEq, and_true, true_and, exists_and_left, and_assoc, List.append_nil]
              rw [decide_eq_true (show (way : Int) < 3 by omega)]
              exact r _ (Same.refl _)
            exact plc .move "move" lit_move _ H13 (B12.same s13) (fun hf => hh6.move hi40 ⟨hdm, okn, okp⟩ hso hst1 (fo.free hf)) (by rw [doAll_snoc]; rfl) fun es' l' H' h1 h2 h3 h4 => ⟨es', l', d', _, _, _, _, _, _, _, _, rfl, h1, h2, hd6, h3, h4⟩
          · refine if_no (fun R r => ?_) fun H13 s13 => ?_
            · simp only [tSl, tPart, tNoPart, tCKw, tVals, gStar, gCons, gNil, StX.tStar, tFmtS, tFmtI, tM0, tJs, tM1, rNewStrs, tMatch, setAll, lit_to, lit_page, lit_section, lit_gone, lit_exact, lit_open, tSeq, tAsg, tIfS, tRet, tRetN, tDrop, tNext, tNever, tOr, tAnd, tNot, tB, tTest, tCB, tCons, tVar, tC, tNil, tOp, tUn, tIf, tAndV, tOrV, tNotV, tChain, tTup, tLst, tCallR, tMethN, tMakeN, tPropN, tYes, gName, cx_K, cx_P, cx_w, rI0, rI, rEq, rNe, List.getElem?_cons_zero, List.getElem?_cons_succ, List.set_cons_zero, List.set_cons_succ, Option.some.injEq, exists_eq_left', exists_eq_left, V.bl.injEq, V.int.injEq, V.str.injEq, V.ref.injEq, List.cons.injEq, and_true, true_and, exists_and_left, and_assoc, List.append_nil]
              rw [decide_eq_false (show ¬ (way : Int) < 3 by omega)]
              exact r _ (Same.refl _)
            have B13 := B12.same s13
            refine sasg_cut (Src := fun v H14 => ∃ (p : Addr) (ys : List Wd), v = .ref p ∧ H14 p = some (.lst (ys.map vW)) ∧ (∀ o ∈ ys, n ≠ o ∧ (aget l o).isSome = true ∧ aget (SS.nil.doAll es).so o = some s0) ∧ ys.length ≤ 1000 ∧ StS K H lw S O E0 N es l H14) (fun R r => ?_) ?_
            · refine tLc_cut (Src := fun J H14 => ∃ (p : Addr) (ys : List Str), J = Itl K p ∧ H14 p = some (.lst (ys.map V.str)) ∧ ys.Perm (l.map fun x => T x.1) ∧ StS K H lw S O E0 N es l H14) (fun R r => ?_) ?_
              · simp only [tSl, tPart, tNoPart, tCKw, tVals, gStar, gCons, gNil, StX.tStar, tFmtS, tFmtI, tM0, tJs, tM1, rNewStrs, tMatch, setAll, lit_to, lit_page, lit_section, lit_gone, lit_exact, lit_open, tSeq, tAsg, tIfS, tRet, tRetN, tDrop, tNext, tNever, tOr, tAnd, tNot, tB, tTest, tCB, tCons, tVar, tC, tNil, tOp, tUn, tIf, tAndV, tOrV, tNotV, tChain, tTup, tLst, tCallR, tMethN, tMakeN, tPropN, tYes, gName, cx_K, cx_P, cx_w, rI0, rI, rEq, rNe, List.getElem?_cons_zero, List.getElem?_cons_succ, List.set_cons_zero, List.set_cons_succ, Option.some.injEq, exists_eq_left', exists_eq_left, V.bl.injEq, V.int.injEq, V.str.injEq, V.ref.injEq, List.cons.injEq, and_true, true_and, exists_and_left, and_assoc, List.append_nil, iList]
                obtain ⟨ks, eS, hks⟩ := B13.st.sp
                exact ⟨ks, .inl eS, _, spAt_keys hks, by rw [List.length_map]; omega, fun ys p hpm _ hp => ⟨⟨_, SqL.of upd_same⟩, r _ _ ⟨p, ys, rfl, upd_same, hpm, B13.st.same ((Same.refl _).nw hp)⟩⟩⟩
              rintro J H14 ⟨p, ys, rfl, ep, hpm, S14⟩
              have hys : ∀ y ∈ ys, ∃ x ∈ l, y = T x.1 := fun y hy => by
                obtain ⟨x, hx, e⟩ := List.mem_map.mp (hpm.subset hy)
                exact ⟨x, hx, e.symm⟩
              have hyl : ys.length ≤ 64 := by
                have := hpm.length_eq
                rw [List.length_map] at this
                omega
              refine tLc_w (walk_list (a := p) (xs := ys.map V.str)) (fun R r => r) (fun Dl j H' => Same H14 H' ∧ ∃ acc : List Wd, H' Dl = some (.lst (acc.map vW)) ∧ acc.length ≤ j ∧ ∀ o ∈ acc, n ≠ o ∧ (aget l o).isSome = true ∧ aget (SS.nil.doAll es).so o = some s0) (fun Dl hD => ⟨(Same.refl _).nw hD, [], upd_same, Nat.le_refl _, fun _ z => nomatch z⟩) (fun Dl j H' _ _ z => SqL.of (z.1 _ _ ep)) ?_ ?_
              · rintro Dl j x Ha Hb hD hj ⟨sa, acc, eD, hal, hacc⟩ ⟨rfl, hxj⟩
                rw [List.length_map] at hj
                rw [List.getElem?_map] at hxj
                obtain ⟨y, hy, rfl⟩ := Option.map_eq_some_iff.mp hxj
                obtain ⟨⟨o, qo⟩, hol, rfl⟩ := hys y (List.mem_of_getElem? hy)
                have hol : (o, qo) ∈ l := hol
                have hlo : aget l o = some qo := aget_of_mem hh6.nl hol
                obtain ⟨t, ht⟩ : ∃ t, aget (SS.nil.doAll es).so o = some t := Option.isSome_iff_exists.mp (hh6.sn o (by rw [← hh6.look o, hlo]; rfl))
                refine ⟨rfl, ?_⟩
                simp only [tSl, tPart, tNoPart, tCKw, tVals, gStar, gCons, gNil, StX.tStar, tFmtS, tFmtI, tM0, tJs, tM1, rNewStrs, tMatch, setAll, lit_to, lit_page, lit_section, lit_gone, lit_exact, lit_open, tSeq, tAsg, tIfS, tRet, tRetN, tDrop, tNext, tNever, tOr, tAnd, tNot, tB, tTest, tCB, tCons, tVar, tC, tNil, tOp, tUn, tIf, tAndV, tOrV, tNotV, tChain, tTup, tLst, tCallR, tMethN, tMakeN, tPropN, tYes, gName, cx_K, cx_P, cx_w, rI0, rI, rEq, rNe, List.getElem?_cons_zero, List.getElem?_cons_succ, List.set_cons_zero, List.set_cons_succ, Option.some.injEq, exists_eq_left', exists_eq_left, V.bl.injEq, V.int.injEq, V.str.injEq, V.ref.injEq, List.cons.injEq, and_true, true_and, exists_and_left, and_assoc, List.append_nil, tDGet, wipe, List.map_cons, List.map_nil]
                have keep : Same H14 Hb ∧ ∃ acc : List Wd, Hb Dl = some (.lst (acc.map vW)) ∧ acc.length ≤ j + 1 ∧ ∀ o ∈ acc, n ≠ o ∧ (aget l o).isSome = true ∧ aget (SS.nil.doAll es).so o = some s0 := ⟨sa, acc, eD, Nat.le_succ_of_le hal, hacc⟩
                refine ⟨scal_W, ?_⟩
                have dw : decide (V.str (T o) = vW n) = decide (o = n) := dec_W
                rw [dw]
                by_cases hon : o = n
                · rw [decide_eq_true hon]
                  exact iteF (iteF keep)
                · rw [decide_eq_false hon]
                  refine iteT ⟨_, dget_so (S14.same sa).so ht, _, hsoW (S14.same sa), scal_W, ?_⟩
                  rw [dec_W]
                  by_cases hts : t = s0
                  · rw [decide_eq_true (by rw [hts])]
                    refine iteT ⟨_, eD, ?_, sa.mt hD, acc ++ [o], ?_, ?_, fun o' ho' => ?_⟩
                    · rw [List.length_map]
                      exact Nat.lt_of_lt_of_le (show _ < 1000 by omega) (by decide)
                    · rw [upd_same, List.map_append]
                      rfl
                    · rw [List.length_append]
                      exact Nat.succ_le_succ hal
                    · rcases List.mem_append.mp ho' with ho' | ho'
                      · exact hacc o' ho'
                      · rw [List.mem_singleton.mp ho']
                        exact ⟨fun e => hon e.symm, by rw [hlo]; rfl, by rw [ht, hts]⟩
                  · rw [decide_eq_false (sortN_ne hts)]
                    exact iteF keep
              · rintro Dl Ha hD ⟨sa, acc, eD, hal, hacc⟩
                rw [List.length_map] at hal
                exact r _ _ ⟨Dl, acc, rfl, eD, hacc, by omega, S14.same sa⟩
            rintro _ H14 ⟨p, ys, rfl, ep, hys, hyl, S14⟩
            refine seq_cut (Src := fun σ H15 => σ = [some (.ref lw), some (.int (m : Int)), some (.ref S), some (.ref O), some (.ref E0), some (.int ((d' : Nat) : Int)), some (.ref N), some (.int (0 + (i : Int))), some pv, some (.int (way : Int)), some (vW n), some (.ref F), x12, o13, some (.ref p)] ∧ H15 p = some (.lst (ys.map vW)) ∧ StG K H lw S O E0 N es (SS.nil.doAll es).so (adel l n) H15) (fun R r => ?_) ?_
            · simp only [tSl, tPart, tNoPart, tCKw, tVals, gStar, gCons, gNil, StX.tStar, tFmtS, tFmtI, tM0, tJs, tM1, rNewStrs, tMatch, setAll, lit_to, lit_page, lit_section, lit_gone, lit_exact, lit_open, tSeq, tAsg, tIfS, tRet, tRetN, tDrop, tNext, tNever, tOr, tAnd, tNot, tB, tTest, tCB, tCons, tVar, tC, tNil, tOp, tUn, tIf, tAndV, tOrV, tNotV, tChain, tTup, tLst, tCallR, tMethN, tMakeN, tPropN, tYes, gName, cx_K, cx_P, cx_w, rI0, rI, rEq, rNe, List.getElem?_cons_zero, List.getElem?_cons_succ, List.set_cons_zero, List.set_cons_succ, Option.some.injEq, exists_eq_left', exists_eq_left, V.bl.injEq, V.int.injEq, V.str.injEq, V.ref.injEq, List.cons.injEq, and_true, true_and, exists_and_left, and_assoc, List.append_nil, tDPop1]
              obtain ⟨ks, eS, hks⟩ := S14.sp
              obtain ⟨v, hv, _⟩ := spAt_val hks hst
              exact ⟨.inl ⟨ks, .inl eS⟩, ks, eS, kW n, rfl, v, hv, r _ _ ⟨rfl, (upd_ne (ne_of ep eS fun z => nomatch z)).trans ep, S14.setS D (spAt_del n hks)⟩⟩
            rintro _ H15 ⟨rfl, ep15, S15⟩
            have okys : ∀ o ∈ ys, o ∈ nmW := fun o ho => by
              obtain ⟨_, h2, _⟩ := hys o ho
              obtain ⟨qo, hqo⟩ := Option.isSome_iff_exists.mp h2
              exact hlk.2 _ (aget_mem hqo)
            have shy : SeqAt.shaped (.list (ys.map dW)) = true := by
              show (PyData.canLayAll0 (ys.map dW) && decide (PyData.depthAll (ys.map dW) + 1 ≤ 64)) = true
              rw [layAll_W fun o ho => nmW_ok o (okys o ho), depthAll_W]
              rfl
            by_cases hm1 : way = 3 ∧ ys ≠ []
            · refine if_yes (fun R r => ?_) fun H16 s16 => ?_
              · simp only [tSl, tPart, tNoPart, tCKw, tVals, gStar, gCons, gNil, StX.tStar, tFmtS, tFmtI, tM0, tJs, tM1, rNewStrs, tMatch, setAll, lit_to, lit_page, lit_section, lit_gone, lit_exact, lit_open, tSeq, tAsg, tIfS, tRet, tRetN, tDrop, tNext, tNever, tOr, tAnd, tNot, tB, tTest, tCB, tCons, tVar, tC, tNil, tOp, tUn, tIf, tAndV, tOrV, tNotV, tChain, tTup, tLst, tCallR, tMethN, tMakeN, tPropN, tYes, gName, cx_K, cx_P, cx_w, rI0, rI, rEq, rNe, List.getElem?_cons_zero, List.getElem?_cons_succ, List.set_cons_zero, List.set_cons_succ, Option.some.injEq, exists_eq_left', exists_eq_left, V.bl.injEq, V.int.injEq, V.str.injEq, V.ref.injEq, List.cons.injEq, and_true, true_and, exists_and_left, and_assoc, List.append_nil]
                rw [hm1.1]
                refine ⟨rfl, iteT ⟨szl rfl, fun p1 hp1 => ?_⟩⟩
                have t1 := (Same.refl H15).nw (o := .lst []) hp1
                refine ⟨.list (ys.map dW), .list [], .lst (SqL.of (t1 _ _ ep15)) (dpa_W ys), .lst (SqL.of upd_same) .nil, shy, rfl, true, ?_, r _ t1⟩
                cases hz : ys with
                | nil => exact absurd hz hm1.2
                | cons y yr => rfl
              have S16 := S15.same s16
              have ep16 := s16 _ _ ep15
              simp only [tSl, tPart, tNoPart, tCKw, tVals, gStar, gCons, gNil, StX.tStar, tFmtS, tFmtI, tM0, tJs, tM1, rNewStrs, tMatch, setAll, lit_to, lit_page, lit_section, lit_gone, lit_exact, lit_open, tSeq, tAsg, tIfS, tRet, tRetN, tDrop, tNext, tNever, tOr, tAnd, tNot, tB, tTest, tCB, tCons, tVar, tC, tNil, tOp, tUn, tIf, tAndV, tOrV, tNotV, tChain, tTup, tLst, tCallR, tMethN, tMakeN, tPropN, tYes, gName, cx_K, cx_P, cx_w, rI0, rI, rEq, rNe, List.getElem?_cons_zero, List.getElem?_cons_succ, List.set_cons_zero, List.set_cons_succ, Option.some.injEq, exists_eq_left', exists_eq_left, V.bl.injEq, V.int.injEq, V.str.injEq, V.ref.injEq, List.cons.injEq, and_true, true_and, exists_and_left, and_assoc, List.append_nil, tBM, rAppend, tDGet]
              obtain ⟨xs0, eE0, _⟩ := hel rfl S16
              refine ⟨tyL eE0, _, hsoW S16, _, _, rfl, lw, p, _, rfl, rfl, S16.wl, ep16, fun z => hm1.2 (List.map_eq_nil_iff.mp z), by rw [List.length_map]; omega, fun y H17 hy s17 hw17 => ⟨szl rfl, fun t ht => ?_⟩⟩
              obtain ⟨o, ho, rfl⟩ := List.mem_map.mp hy
              obtain ⟨hno, hlo, hoo⟩ := hys o ho
              have S17 := S16.wel D s17 hw17
              obtain ⟨xs, eE, hxl⟩ := hel rfl S17
              have t5 := (Same.refl H17).nw (o := .tup [V.int (d' : Int), V.str (Str.ofString "merge"), vW (sortN s0), vW n, vW o]) ht
              have S18 := S17.same t5
              have et := upd_same (H := H17) (a := t) (o := .tup [V.int (d' : Int), V.str (Str.ofString "merge"), vW (sortN s0), vW n, vW o])
              rw [lit_merge] at *
              generalize upd H17 t (.tup [V.int (d' : Int), vW sMerge, vW (sortN s0), vW n, vW o]) = H18 at *
              refine ⟨xs, t5 _ _ eE, hxl, nx (es ++ [.merge d' s0 n o]) (adel l n) _ ?_ (hh6.merge hi40 ⟨hdm, okn, nmW_ok o (okys o ho)⟩ hso hst1 hoo hlo hno) (lev (.merge d' s0 n o) ⟨hn, okys o ho⟩) hlk.del⟩
              have e1 : (SS.nil.doAll (es ++ [.merge d' s0 n o])).so = (SS.nil.doAll es).so := by rw [doAll_snoc]; rfl
              show StG _ _ _ _ _ _ _ _ _ _ _
              rw [e1]
              exact S18.addE D (t5 _ _ eE) ⟨t, rfl, .inl (.inl et)⟩
            · refine if_no (fun R r => ?_) fun H16 s16 => ?_
              · simp only [tSl, tPart, tNoPart, tCKw, tVals, gStar, gCons, gNil, StX.tStar, tFmtS, tFmtI, tM0, tJs, tM1, rNewStrs, tMatch, setAll, lit_to, lit_page, lit_section, lit_gone, lit_exact, lit_open, tSeq, tAsg, tIfS, tRet, tRetN, tDrop, tNext, tNever, tOr, tAnd, tNot, tB, tTest, tCB, tCons, tVar, tC, tNil, tOp, tUn, tIf, tAndV, tOrV, tNotV, tChain, tTup, tLst, tCallR, tMethN, tMakeN, tPropN, tYes, gName, cx_K, cx_P, cx_w, rI0, rI, rEq, rNe, List.getElem?_cons_zero, List.getElem?_cons_succ, List.set_cons_zero, List.set_cons_succ, Option.some.injEq, exists_eq_left', exists_eq_left, V.bl.injEq, V.int.injEq, V.str.injEq, V.ref.injEq, List.cons.injEq, and_true, true_and, exists_and_left, and_assoc, List.append_nil]
                refine ⟨rfl, ?_⟩
                by_cases hw : way = 3
                · rw [decide_eq_true (show (way : Int) = 3 by omega)]
                  have hy0 : ys = [] := Classical.byContradiction fun z => hm1 ⟨hw, z⟩
                  refine iteT ⟨szl rfl, fun p1 hp1 => ?_⟩
                  have t1 := (Same.refl H15).nw (o := .lst []) hp1
                  refine ⟨.list (ys.map dW), .list [], .lst (SqL.of (t1 _ _ ep15)) (dpa_W ys), .lst (SqL.of upd_same) .nil, shy, rfl, false, ?_, r _ t1⟩
                  rw [hy0]
                  rfl
                · rw [decide_eq_false (show ¬ (way : Int) = 3 by omega)]
                  exact iteF (r _ (Same.refl _))
              have S16 := S15.same s16
              simp only [tSl, tPart, tNoPart, tCKw, tVals, gStar, gCons, gNil, StX.tStar, tFmtS, tFmtI, tM0, tJs, tM1, rNewStrs, tMatch, setAll, lit_to, lit_page, lit_section, lit_gone, lit_exact, lit_open, tSeq, tAsg, tIfS, tRet, tRetN, tDrop, tNext, tNever, tOr, tAnd, tNot, tB, tTest, tCB, tCons, tVar, tC, tNil, tOp, tUn, tIf, tAndV, tOrV, tNotV, tChain, tTup, tLst, tCallR, tMethN, tMakeN, tPropN, tYes, gName, cx_K, cx_P, cx_w, rI0, rI, rEq, rNe, List.getElem?_cons_zero, List.getElem?_cons_succ, List.set_cons_zero, List.set_cons_succ, Option.some.injEq, exists_eq_left', exists_eq_left, V.bl.injEq, V.int.injEq, V.str.injEq, V.ref.injEq, List.cons.injEq, and_true, true_and, exists_and_left, and_assoc, List.append_nil, tBM, rAppend, tDGet]
              obtain ⟨xs, eE, hxl⟩ := hel rfl S16
              refine ⟨tyL eE, _, hsoW S16, szl rfl, fun t ht => ?_⟩
              have t5 := (Same.refl H16).nw (o := .tup [V.int (d' : Int), V.str (Str.ofString "take"), vW (sortN s0), vW n]) ht
              have S18 := S16.same t5
              have et := upd_same (H := H16) (a := t) (o := .tup [V.int (d' : Int), V.str (Str.ofString "take"), vW (sortN s0), vW n])
              rw [lit_take] at *
              generalize upd H16 t (.tup [V.int (d' : Int), vW sTake, vW (sortN s0), vW n]) = H18 at *
              refine ⟨xs, t5 _ _ eE, hxl, nx (es ++ [.take d' s0 n]) (adel l n) _ ?_ (hh6.take hi40 ⟨hdm, okn⟩ hso hst1) (lev (.take d' s0 n) hn) hlk.del⟩
              have e1 : (SS.nil.doAll (es ++ [.take d' s0 n])).so = (SS.nil.doAll es).so := by rw [doAll_snoc]; rfl
              show StG _ _ _ _ _ _ _ _ _ _ _
              rw [e1]
              exact S18.addE D (t5 _ _ eE) ⟨t, rfl, .inl (.inl et)⟩
    · rintro σ H4 ⟨es, l, d, o7, o8, o9, o10, o11, o12, o13, o14, rfl, St4, hh, hd, hev, _⟩
      exact rr _ _ ⟨es, l, d, o7, o8, o9, o10, o11, o12, o13, o14, rfl, St4, hh.up hj, by omega, hev⟩
  rintro _ H3 ⟨es, l, d, o7, o8, o9, o10, o11, o12, o13, o14, rfl, St, hh, hd, hev⟩
  simp only [tSl, tPart, tNoPart, tCKw, tVals, gStar, gCons, gNil, StX.tStar, tFmtS, tFmtI, tM0, tJs, tM1, rNewStrs, tMatch, setAll, lit_to, lit_page, lit_section, lit_gone, lit_exact, lit_open, tSeq, tAsg, tIfS, tRet, tRetN, tDrop, tNext, tNever, tOr, tAnd, tNot, tB, tTest, tCB, tCons, tVar, tC, tNil, tOp, tUn, tIf, tAndV, tOrV, tNotV, tChain, tTup, tLst, tCallR, tMethN, tMakeN, tPropN, tYes, gName, cx_K, cx_P, cx_w, rI0, rI, rEq, rNe, List.getElem?_cons_zero, List.getElem?_cons_succ, List.set_cons_zero, List.set_cons_succ, Option.some.injEq, exists_eq_left', exists_eq_left, V.bl.injEq, V.int.injEq, V.str.injEq, V.ref.injEq, List.cons.injEq, and_true, true_and, exists_and_left, and_assoc, List.append_nil]
  obtain ⟨xs, eE, hx⟩ := St.ev
  refine k E0 xs es H3 eE hx hh.can ?_ (fun e he => ⟨hev e he, ?_⟩) St.sb St.wl
  · have := hh.sz.e
    rw [hh.ev] at this
    exact this
  · have := hh.day e he
    omega
end
end K88
set_option maxHeartbeats 4000000
/-! What the law leans on. -/
namespace K88
open PySem PySem.Spec PyProof.Rows L2 LamX
theorem rcG_server {X : Cx} (L : Lw X.K X.mg) : RcG X 4 (DIns a_Server (SrvEq X.prog X.w X.K)) := by
  obtain ⟨fd, F, hb⟩ := okf_Server_eq (P := X.prog) (w := X.w) (base := X.base) L
  exact rcG_ins F L.m_Server_eq.at_ L.m_Server_eq.fn hb (E := E0) pass0
theorem rcG_site {X : Cx} (L : Lw X.K X.mg) : RcG X 1 (DIns a_Site (SitEq X.K)) := by
  obtain ⟨fd, F, hb⟩ := okf_Site_eq (P := X.prog) (w := X.w) (base := X.base) L
  exact rcG_ins F L.m_Site_eq.at_ L.m_Site_eq.fn hb (E := E0) pass0
section
variable {P : Program} {w : World} {K : PySem.W.Frag} {mg : Str → Option Value} {base : Heap}
theorem SqL.en {H H' : Hp} {a : Addr} {xs : List V} (h : SqL K H a xs) (s : ExtN H H') : SqL K H' a xs := by
  rcases h with (h | ⟨o, h⟩) | h
  · exact .inl (.inl (s _ _ h (fun _ z => nomatch z)))
  · exact .inl (.inr ⟨o, s _ _ h (fun _ z => nomatch z)⟩)
  · exact .inr h
theorem TabS.sb {H H' : Hp} {l tP : Addr} {q : Str} (t : TabS H tP q) {u : HO} (e : H l = some u) (m : Mut (some u)) (n : ∀ φ, u ≠ .ext φ) (s : SameB l H H') : TabS H' tP q := by
  obtain ⟨ps, h1, h2, h3⟩ := t
  refine ⟨ps, s _ _ (fun z => by rw [z, e] at h1; cases h1; exact m) h1, h2, fun pos cv hc => ?_⟩
  obtain ⟨c, e1, e2⟩ := h3 pos cv hc
  exact ⟨c, e1, s _ _ (fun z => by rw [z, e] at e2; cases e2; exact n _ rfl) e2⟩
theorem DnAt.en {H H' : Hp} {d : Addr} {rs : List Ru} (h : DnAt P w K H d rs) (s : ExtN H H') : DnAt P w K H' d rs := by
  obtain ⟨es, e, ks, pr⟩ := h
  exact ⟨es, s _ _ e (fun _ z => nomatch z), ks.kt s.kt, paired_imp pr fun _ _ z => ⟨z.1, z.2.kt s.kt⟩⟩
theorem TblAt.en {H H' : Hp} {v : V} {rs : List Ru} (h : TblAt P w K H v rs) (s : ExtN H H') : TblAt P w K H' v rs := by
  obtain ⟨a, dx, d, rfl, e, dn⟩ := h
  exact ⟨a, dx, d, rfl, s _ _ e (fun _ z => nomatch z), dn.en s⟩
theorem SvAt.en {H H' : Hp} {a : Addr} {hs : Hs} (h : SvAt P w K H a hs) (s : ExtN H H') : SvAt P w K H' a hs := by
  obtain ⟨dx, p, t, ts, h1, h2, h3, h4⟩ := h
  exact ⟨dx, p, t, ts, s _ _ h1 (fun _ z => nomatch z), s _ _ h2 (fun _ z => nomatch z), s _ _ h3 (fun _ z => nomatch z), paired_imp h4 fun _ _ z => z.en s⟩
theorem ClAt.en {H H' : Hp} {b : Addr} {c : Cl} (h : ClAt K H b c) (s : ExtN H H') : ClAt K H' b c := by
  obtain ⟨dx, u, e, z⟩ := h
  exact ⟨dx, u, s _ _ e (fun _ z => nomatch z), z.kt s.kt⟩
theorem SiteAt.en {H H' : Hp} {a : Addr} {st : SS} {p : Pt} (S : SiteAt K H a st p) (s : ExtN H H') : SiteAt K H' a st p where
  ins := S.ins.imp fun _ q => s _ _ q (fun _ z => nomatch z)
  h := S.h.imp fun _ q => ⟨s _ _ q.1 (fun _ z => nomatch z), paired_imp q.2 fun _ _ z => z.kt s.kt⟩
  so := s _ _ S.so (fun _ z => nomatch z)
  sp := S.sp.imp fun _ q => ⟨s _ _ q.1 (fun _ z => nomatch z), q.2.kt s.kt⟩
  ot := s _ _ S.ot (fun _ z => nomatch z)
  he := s _ _ S.he (fun _ z => nomatch z)
  cs := paired_imp S.cs fun _ _ z => z.en s
  n1 := S.n1
  n2 := S.n2
  n3 := S.n3
  n4 := S.n4
  nd := S.nd
theorem WlAt.en {H H' : Hp} {l : Addr} (h : WlAt H l) (s : ExtN H H') : WlAt H' l := by
  obtain ⟨D, M, e, r⟩ := h
  exact ⟨D, M, s _ _ e (fun _ z => nomatch z), r⟩
/-- what was there before x came stays -/
theorem SameB.old {x : Addr} {H H1 H' : Hp} (s0 : Same H H1) (h : H x = none) (s : SameB x H1 H') : Same H H' := fun b o e => s b o (ne_of_none e h) (s0 b o e)
theorem KeepF.old {p : Pt} {H H1 H' : Hp} (s0 : Same H H1) (h : ∀ b ∈ p.all, H b = none) (s : KeepF p H1 H') : Same H H' := fun b o e => s b o (fun z => by have := h b z; rw [e] at this; cases this) (s0 b o e)
end
/-! ### histories drawn -/
theorem drawn_so {st : SS} {e : Ev} (h : LEv e) (ho : ∀ x ∈ st.so, x.1 ∈ nmW) : ∀ x ∈ (st.doEv e).so, x.1 ∈ nmW := by
  intro x hx
  cases e with
  | pl v d s n p =>
    cases v with
    | put =>
      have hx : x ∈ aput st.so n s := hx
      have hk : x.1 ∈ (aput st.so n s).map (·.1) := List.mem_map_of_mem (f := fun x : Wd × Bool => x.1) hx
      rw [keys_put] at hk
      have old : ∀ k ∈ st.so.map (·.1), k ∈ nmW := fun k hk => by
        obtain ⟨y, hy, rfl⟩ := List.mem_map.mp hk
        exact ho y hy
      split at hk
      · exact old _ hk
      · rcases List.mem_append.mp hk with hk | hk
        · exact old _ hk
        · rw [List.mem_singleton.mp hk]
          exact h.1
    | move => exact ho x hx
    | bring => exact ho x hx
  | merge => exact ho x hx
  | take => exact ho x hx
theorem drawn_sp {st : SS} {e : Ev} (h : LEv e) (ho : ∀ x ∈ st.sp, OkL 2 x.2) : ∀ x ∈ (st.doEv e).sp, OkL 2 x.2 := by
  intro x hx
  cases e with
  | pl v d s n p =>
    cases v with
    | put =>
      rcases mem_put (show x ∈ aput st.sp n p from hx) with z | z
      · exact ho x z
      · rw [z]; exact h.2
    | move =>
      rcases mem_put (show x ∈ aput (adel st.sp n) n p from hx) with z | z
      · exact ho x (mem_del z)
      · rw [z]; exact h.2
    | bring =>
      rcases mem_put (show x ∈ aput st.sp n p from hx) with z | z
      · exact ho x z
      · rw [z]; exact h.2
  | merge => exact ho x (mem_del (show x ∈ adel st.sp _ from hx))
  | take => exact ho x (mem_del (show x ∈ adel st.sp _ from hx))
theorem drawn_all : ∀ (es : List Ev) (st : SS), (∀ e ∈ es, LEv e) → (∀ x ∈ st.so, x.1 ∈ nmW) → (∀ x ∈ st.sp, OkL 2 x.2) → (∀ x ∈ (st.doAll es).so, x.1 ∈ nmW) ∧ ∀ x ∈ (st.doAll es).sp, OkL 2 x.2
  | [], _, _, h1, h2 => ⟨h1, h2⟩
  | e :: es, st, h, h1, h2 => drawn_all es (st.doEv e) (fun x hx => h x (List.mem_cons_of_mem _ hx)) (drawn_so (h e (List.mem_cons_self ..)) h1) (drawn_sp (h e (List.mem_cons_self ..)) h2)
theorem sz_all : ∀ (es : List Ev) (st : SS) (k : Nat), Sz k st → Sz (k + es.length) (st.doAll es)
  | [], _, _, h => h
  | e :: es, st, k, h => by
    have := sz_all es (st.doEv e) (k + 1) (h.step e)
    rw [List.length_cons, show k + (es.length + 1) = k + 1 + es.length by omega]
    exact this
/-- what stands has a sort -/
def SnOk (st : SS) : Prop := ∀ x ∈ st.sp, (aget st.so x.1).isSome = true
theorem mem_put' {α : Type} {l : List (Wd × α)} {n : Wd} {v : α} {x : Wd × α} (h : x ∈ aput l n v) : x ∈ l ∨ x.1 = n := by
  unfold aput at h
  split at h
  · obtain ⟨y, hy, e⟩ := List.mem_map.mp h
    split at e
    · rename_i z
      rw [← e]
      exact .inr z
    · exact .inl (e ▸ hy)
  · rcases List.mem_append.mp h with h | h
    · exact .inl h
    · rw [List.mem_singleton.mp h]
      exact .inr rfl
theorem SnOk.step {st : SS} {e : Ev} (h : SnOk st) (c : Can st e) : SnOk (st.doEv e) := by
  intro x hx
  cases e with
  | pl v d s n p =>
    cases v with
    | put =>
      show (aget (aput st.so n s) x.1).isSome = true
      by_cases z : x.1 = n
      · rw [z, aget_put]
        rfl
      · rw [aget_put_ne z]
        exact h x ((mem_put' (show x ∈ aput st.sp n p from hx)).resolve_right z)
    | move =>
      show (aget st.so x.1).isSome = true
      by_cases z : x.1 = n
      · rw [z, c.2.1]
        rfl
      · exact h x (mem_del ((mem_put' (show x ∈ aput (adel st.sp n) n p from hx)).resolve_right z))
    | bring =>
      show (aget st.so x.1).isSome = true
      by_cases z : x.1 = n
      · rw [z, c.2.1]
        rfl
      · exact h x ((mem_put' (show x ∈ aput st.sp n p from hx)).resolve_right z)
  | merge => exact h x (mem_del (show x ∈ adel st.sp _ from hx))
  | take => exact h x (mem_del (show x ∈ adel st.sp _ from hx))
theorem sn_all : ∀ (es : List Ev) (st : SS), CanAll st es → SnOk st → SnOk (st.doAll es)
  | [], _, _, h => h
  | e :: es, st, c, h => sn_all es (st.doEv e) c.2.2 (h.step c.2.1)
def wLast : Wd := [108, 97, 115, 116]
def aQQ : Ad := [[113], [113]]
def evLast : Ev := .pl .put 1000 false wLast aQQ
theorem can_last {es : List Ev} (hl : ∀ e ∈ es, LEv e ∧ e.day ≤ 500) (ca : CanAll SS.nil es) (n : es.length ≤ 9) : Can (SS.nil.doAll es) evLast ∧ CanAll SS.nil (es ++ [evLast]) := by
  have h := drawn_all es SS.nil (fun e he => (hl e he).1) (fun _ z => nomatch z) (fun _ z => nomatch z)
  have ok : OkEv evLast := ⟨by decide, ⟨by decide, by decide, by decide⟩, ⟨by decide, fun w hw => by
    simp only [aQQ, List.mem_cons, List.not_mem_nil, or_false] at hw
    rcases hw with rfl | rfl <;> exact ⟨by decide, by decide, by decide⟩⟩⟩
  have c : Can (SS.nil.doAll es) evLast := by
    refine ⟨⟨ok, fun x hx => ?_⟩, ?_, fun x hx => ?_⟩
    · rw [doAll_ev] at hx
      exact Nat.le_trans (hl x hx).2 (by decide)
    · exact aget_none.mpr fun x hx e => absurd (h.1 x hx) (by rw [e]; decide)
    · obtain ⟨s', hs⟩ := Option.isSome_iff_exists.mp (sn_all es SS.nil ca (fun _ z => nomatch z) x hx)
      refine ⟨s', hs, fun e => ?_⟩
      have := (h.2 x hx).2 [113] (by rw [e]; decide)
      exact absurd this (by decide)
  refine ⟨c, ca.snoc c (ca.last.step ok ((sz_all es SS.nil 0 ⟨Nat.le_refl _, Nat.le_refl _, Nat.le_refl _, Nat.le_refl _, Nat.le_refl _⟩).up (show 0 + es.length ≤ 9 by omega)) (by decide))⟩
end K88
set_option maxHeartbeats 4000000
/-! What the law's turn leans on. -/
namespace K88
open PySem PySem.Spec PyProof.Rows L2 LamX
section
variable {P : Program} {w : World} {K : PySem.W.Frag} {H H1 H2 H' : Hp}
theorem SiteAt.off {a : Addr} {st : SS} {p : Pt} (S : SiteAt K H a st p) {x : Addr} (s : SameB x H H') (nx : x ∉ p.all) (na : x ≠ a) (kt : KeepT H H') : SiteAt K H' a st p := by
  have ne : ∀ b ∈ p.all, b ≠ x := fun b hb z => nx (z ▸ hb)
  have m1 := ne p.h (by simp [Pt.all])
  have m2 := ne p.so (by simp [Pt.all])
  have m3 := ne p.sp (by simp [Pt.all])
  have m4 := ne p.ot (by simp [Pt.all])
  have m5 := ne p.he (by simp [Pt.all])
  have m6 : ∀ c ∈ p.cs, c ≠ x := fun c hc => ne c (by simp [Pt.all, hc])
  obtain ⟨dx, ei⟩ := S.ins
  obtain ⟨vs, eh, hh⟩ := S.h
  obtain ⟨ks, ek, hk⟩ := S.sp
  exact ⟨⟨dx, s _ _ na.symm ei⟩, ⟨vs, s _ _ m1 eh, paired_imp hh fun _ _ q => q.kt kt⟩, s _ _ m2 S.so, ⟨ks, s _ _ m3 ek, hk.kt kt⟩, s _ _ m4 S.ot, s _ _ m5 S.he, cls_sb S.cs s m6 kt, S.n1, S.n2, S.n3, S.n4, S.nd⟩
theorem SiteAt.ty {a : Addr} {st : SS} {p : Pt} (S : SiteAt K H a st p) : ∀ b ∈ p.all, (∃ xs, H b = Option.some (.lst xs)) ∨ (∃ kv, H b = Option.some (.dK kv)) ∨ ∃ dx fs, H b = Option.some (.ins a_Claim dx fs) := by
  intro b hb
  simp only [Pt.all, List.mem_cons] at hb
  rcases hb with rfl | rfl | rfl | rfl | rfl | hb
  · obtain ⟨vs, e, _⟩ := S.h; exact .inl ⟨_, e⟩
  · exact .inr (.inl ⟨_, S.so⟩)
  · obtain ⟨ks, e, _⟩ := S.sp; exact .inr (.inl ⟨_, e⟩)
  · exact .inr (.inl ⟨_, S.ot⟩)
  · exact .inl ⟨_, S.he⟩
  · obtain ⟨dx, fs, e⟩ := S.cl hb; exact .inr (.inr ⟨_, _, e⟩)
theorem SiteAt.nmem {a : Addr} {st : SS} {p : Pt} (S : SiteAt K H a st p) {b : Addr} {o : HO} (e : H b = Option.some o) (n1 : ∀ xs, o ≠ .lst xs) (n2 : ∀ kv, o ≠ .dK kv) (n3 : ∀ dx fs, o ≠ .ins a_Claim dx fs) : b ∉ p.all := fun hb => by
  rcases S.ty b hb with ⟨x, q⟩ | ⟨x, q⟩ | ⟨x, y, q⟩
  · rw [e] at q; cases q; exact n1 _ rfl
  · rw [e] at q; cases q; exact n2 _ rfl
  · rw [e] at q; cases q; exact n3 _ _ rfl
/-- a server whose lists came after a site: what the site does leaves it -/
theorem SvX.kf {a b : Addr} {hs : Hs} {st st' : SS} {p : Pt} (h : SvX P w K H H1 a hs) (S0 : SiteAt K H b st p) (S : SiteAt K H1 b st' p) (k : KeepF p H1 H2) : SvAt P w K H2 a hs := by
  obtain ⟨dx, s, t, ts, f1, f2, h1, h2, h3, h4⟩ := h
  have fr : ∀ x, H x = none → x ∉ p.all := fun x hx hb => by
    obtain ⟨o, q⟩ := S0.some x hb
    rw [hx] at q
    cases q
  have kt := S.kt k
  refine ⟨dx, s, t, ts, k _ _ (S.nmem h1 (fun _ z => nomatch z) (fun _ z => nomatch z) (fun _ _ z => by injection z with z; exact absurd z (by decide))) h1, k _ _ (fr s f1) h2, k _ _ (fr t f2) h3, paired_imp h4 fun v h q => ?_⟩
  obtain ⟨x, dx, d, rfl, e, es, ed, ks, pr⟩ := q
  exact ⟨x, dx, d, rfl, k _ _ (S.nmem e (fun _ z => nomatch z) (fun _ z => nomatch z) (fun _ _ z => by injection z with z; exact absurd z (by decide))) e, es, k _ _ (S.nmem ed (fun _ z => nomatch z) (fun _ z => nomatch z) (fun _ _ z => nomatch z)) ed, ks.kt kt, paired_imp pr fun _ _ z => ⟨z.1, z.2.kt kt⟩⟩
end
/-! ### claims, as data -/
def ClOk (c : Cl) : Prop := OkA c.spot ∧ OkW c.name
theorem cl_step {st : SS} {e : Ev} (ok : OkEv e) (h : ∀ c ∈ st.he, ClOk c) : ∀ c ∈ (st.doEv e).he, ClOk c := by
  have en : ∀ (n : Wd) (t : Nat) (c : Cl), ClOk c → ClOk (Cl.endAt n t c) := fun n t c h => by
    unfold Cl.endAt
    split <;> exact h
  have mp : ∀ (n : Wd) (t : Nat), ∀ c ∈ st.he.map (Cl.endAt n t), ClOk c := fun n t c hc => by
    obtain ⟨y, hy, rfl⟩ := List.mem_map.mp hc
    exact en _ _ _ (h y hy)
  intro c hc
  cases e with
  | pl v d s n p =>
    cases v with
    | put =>
      rcases List.mem_append.mp (show c ∈ st.he ++ [_] from hc) with z | z
      · exact h c z
      · rw [List.mem_singleton.mp z]
        exact ⟨ok.2.2, ok.2.1⟩
    | move =>
      rcases List.mem_append.mp (show c ∈ st.he.map (Cl.endAt n _) ++ [_] from hc) with z | z
      · exact mp _ _ c z
      · rw [List.mem_singleton.mp z]
        exact ⟨ok.2.2, ok.2.1⟩
    | bring =>
      rcases List.mem_append.mp (show c ∈ st.he ++ [_] from hc) with z | z
      · exact h c z
      · rw [List.mem_singleton.mp z]
        exact ⟨ok.2.2, ok.2.1⟩
  | merge d s n o => exact mp _ _ c hc
  | take d s n => exact mp _ _ c hc
theorem cl_all : ∀ (es : List Ev) (st : SS), CanAll st es → (∀ c ∈ st.he, ClOk c) → ∀ c ∈ (st.doAll es).he, ClOk c
  | [], _, _, h => h
  | e :: es, st, ca, h => cl_all es (st.doEv e) ca.2.2 (cl_step ca.2.1.okEv h)
theorem shaped_cls {cs : List Cl} (ok : ∀ c ∈ cs, ClOk c) : SeqAt.shaped (.list (cs.map dCl)) = true := by
  have h0 : ∀ c, ClOk c → (dCl c).canLay0 = true ∧ (dCl c).depth ≤ 2 := fun c ok => by
    refine ⟨?_, ?_⟩
    · show ((dW (sortN c.kind)).canLay0 && ((dA c.spot).canLay0 && ((dW c.name).canLay0 && (true && ((oD c.ended).canLay0 && true))))) = true
      rw [lay_N, lay_A ok.1.ok, ok.2.lay, show (oD c.ended).canLay0 = true by cases c.ended <;> rfl]
      rfl
    · show max 0 (max (dA c.spot).depth (max 0 (max 0 (max (oD c.ended).depth 0)))) + 1 ≤ 2
      rw [depth_A, show (oD c.ended).depth = 0 by cases c.ended <;> rfl]
      decide
  have h1 : ∀ cs : List Cl, (∀ c ∈ cs, ClOk c) → PyData.canLayAll0 (cs.map dCl) = true := fun cs ok => by
    induction cs with
    | nil => rfl
    | cons c cs ih =>
      show ((dCl c).canLay0 && PyData.canLayAll0 (cs.map dCl)) = true
      rw [(h0 _ (ok c (List.mem_cons_self ..))).1, ih fun x hx => ok x (List.mem_cons_of_mem _ hx)]
      rfl
  have h2 : ∀ cs : List Cl, (∀ c ∈ cs, ClOk c) → PyData.depthAll (cs.map dCl) ≤ 2 := fun cs ok => by
    induction cs with
    | nil => exact Nat.zero_le _
    | cons c cs ih =>
      show max (dCl c).depth (PyData.depthAll (cs.map dCl)) ≤ 2
      exact Nat.max_le.mpr ⟨(h0 _ (ok c (List.mem_cons_self ..))).2, ih fun x hx => ok x (List.mem_cons_of_mem _ hx)⟩
  refine Bool.and_eq_true_iff.mpr ⟨h1 cs ok, decide_eq_true ?_⟩
  have := h2 cs ok
  show PyData.depthAll (cs.map dCl) + 1 ≤ 64
  omega
/-! ### texts -/
theorem joinL_snoc (sep x : List Nat) : ∀ ls : List (List Nat), ls ≠ [] → TL.joinL sep (ls ++ [x]) = TL.joinL sep ls ++ (sep ++ x)
  | [], h => absurd rfl h
  | [l], _ => rfl
  | l :: k :: r, _ => by
    show l ++ (sep ++ TL.joinL sep ((k :: r) ++ [x])) = (l ++ (sep ++ TL.joinL sep (k :: r))) ++ (sep ++ x)
    rw [joinL_snoc sep x (k :: r) (List.cons_ne_nil _ _), List.append_assoc, List.append_assoc]
theorem joinL_ne {sep : List Nat} : ∀ {ls : List (List Nat)}, ls ≠ [] → (∀ l ∈ ls, l ≠ []) → TL.joinL sep ls ≠ []
  | [], h, _ => absurd rfl h
  | [l], _, h => h l (List.mem_cons_self ..)
  | l :: k :: r, _, h => fun e => h l (List.mem_cons_self ..) (List.append_eq_nil_iff.mp (show l ++ _ = [] from e)).1
theorem lnH_last : lnH (1000, []) = [sDay ++ ([32] ++ dg 1000)] := by
  show _ :: (sortR []).map tR = _
  rw [sortR_nil.mpr rfl]
  rfl
theorem tSv_ne {hs : Hs} (h : hs ≠ []) (ok : OkHs hs) : tSv hs ≠ [] := by
  have hm := lnSv_mem ok.ok ok.dy
  refine joinL_ne (fun e => h ?_) fun l hl => (hm l hl).2.2
  cases hs with
  | nil => rfl
  | cons x xs => exact absurd e (by show lnH x ++ _ ≠ []; exact List.cons_ne_nil _ _)
theorem tSv_last {hs : Hs} (h : hs ≠ []) : tSv (hs.map srt ++ [(1000, [])]) = tSv hs ++ ([10] ++ (sDay ++ ([32] ++ dg 1000))) := by
  unfold tSv tLn
  have e : lnSv (hs.map srt ++ [(1000, [])]) = lnSv hs ++ [sDay ++ ([32] ++ dg 1000)] := by
    rw [← lnSv_srt hs]
    unfold lnSv
    rw [List.flatMap_append]
    refine congrArg _ ?_
    show lnH (1000, []) ++ [] = _
    rw [lnH_last]
    rfl
  rw [e, joinL_snoc]
  intro e
  cases hs with
  | nil => exact h rfl
  | cons x xs => exact absurd e (by show lnH x ++ _ ≠ []; exact List.cons_ne_nil _ _)
theorem tSv_last0 : tSv ([].map srt ++ [(1000, [])]) = sDay ++ ([32] ++ dg 1000) := by
  show TL.joinL [10] (lnH (1000, []) ++ []) = _
  rw [lnH_last]
  rfl
theorem tSt_ne {es : List Ev} (h : es ≠ []) : tSt es ≠ [] := by
  refine joinL_ne (fun e => h (List.map_eq_nil_iff.mp e)) fun l hl => ?_
  obtain ⟨e, _, rfl⟩ := List.mem_map.mp hl
  exact tEv_ne e
theorem tSt_last {es : List Ev} (h : es ≠ []) : tSt (es ++ [evLast]) = tSt es ++ ([10] ++ tEv evLast) := by
  unfold tSt tLn
  rw [List.map_append]
  exact joinL_snoc _ _ _ fun e => h (List.map_eq_nil_iff.mp e)
theorem tSt_last0 : tSt ([] ++ [evLast]) = tEv evLast := rfl
theorem lz_day : Str.ofString "day 1000" = T (sDay ++ ([32] ++ dg 1000)) := by decide +kernel
theorem lz_dayN : Str.ofString "\nday 1000" = T ([10] ++ (sDay ++ ([32] ++ dg 1000))) := by decide +kernel
theorem lz_ev : Str.ofString "1000 put page last at /q/q" = T (tEv evLast) := by decide +kernel
theorem lz_evN : Str.ofString "\n1000 put page last at /q/q" = T ([10] ++ tEv evLast) := by decide +kernel
theorem lz_last : V.str (Str.ofString "last") = vW wLast := by decide +kernel
theorem lz_q : V.str (Str.ofString "q") = vW [113] := by decide +kernel
theorem lz_nil : Str.ofString "" = T [] := by decide +kernel
theorem hs_last {hs : Hs} (ok : OkHs hs) (hl : hs.length ≤ 4) (hd : ∀ h ∈ hs, h.1 ≤ 500) : OkHs (hs.map srt ++ [(1000, [])]) := by
  refine ⟨fun h hh => ?_, fun h hh => ?_, ?_, ?_⟩
  · rcases List.mem_append.mp hh with hh | hh
    · obtain ⟨x, hx, rfl⟩ := List.mem_map.mp hh
      exact (ok.ok x hx).sort
    · rw [List.mem_singleton.mp hh]
      exact ⟨(fun _ z => nomatch z), List.nodup_nil, Nat.zero_le _⟩
  · rcases List.mem_append.mp hh with hh | hh
    · obtain ⟨x, hx, rfl⟩ := List.mem_map.mp hh
      exact ok.dy x hx
    · rw [List.mem_singleton.mp hh]
      decide
  · rw [List.map_append, List.map_map]
    refine List.pairwise_append.mpr ⟨ok.asc, List.pairwise_singleton _ _, fun a ha b hb => ?_⟩
    obtain ⟨h, hh, rfl⟩ := List.mem_map.mp ha
    rw [List.mem_singleton.mp hb]
    have := hd h hh
    show h.1 < 1000
    omega
  · rw [List.length_append, List.length_map]
    show hs.length + 1 ≤ 20
    omega
theorem srt_pair (hs : Hs) : Paired (fun (x y : Nat × List Ru) => x.1 = y.1 ∧ y.2.Perm x.2) (hs.map srt) hs := by
  induction hs with
  | nil => exact .nil
  | cons h hs ih => exact .cons ⟨rfl, (sortR_perm h.2).symm⟩ ih
end K88
namespace K88
open PySem PySem.Spec PyProof.Rows L2 LamX
theorem dIns_sv {P : Program} {w : World} {K : PySem.W.Frag} {H : Hp} {a b : Addr} {hs hs' : Hs} (h : SvAt P w K H a hs) (h' : SvAt P w K H b hs') (pm : Paired (fun (x y : Nat × List Ru) => x.1 = y.1 ∧ y.2.Perm x.2) hs hs') (ok : ∀ x ∈ hs, OkRs x.2) : DIns a_Server (SrvEq P w K) (.ref a) (.ref b) H := by
  obtain ⟨dx, s, t, ts, e, r⟩ := id h
  obtain ⟨dx', s', t', ts', e', r'⟩ := id h'
  exact ⟨a, b, _, _, _, _, rfl, rfl, e, e', srvEq_of h h' pm ok⟩
theorem dIns_st {K : PySem.W.Frag} {H : Hp} {a b : Addr} {st st' : SS} {p p' : Pt} (S : SiteAt K H a st p) (S' : SiteAt K H b st' p') (e : st.ev = st'.ev) (ok : ∀ x ∈ st.ev, OkEv x) : DIns a_Site (SitEq K) (.ref a) (.ref b) H := by
  obtain ⟨dx, q⟩ := S.ins
  obtain ⟨dx', q'⟩ := S'.ins
  exact ⟨a, b, _, _, _, _, rfl, rfl, q, q', st, st', p, p', S, S', e, ok⟩
end K88
namespace K88
open PySem PySem.Spec PyProof.Rows L2 LamX
theorem SvX.mono {P : Program} {w : World} {K : PySem.W.Frag} {H H1 H2 : Hp} {a : Addr} {hs : Hs} (h : SvX P w K H H1 a hs) (e : Same H1 H2) : SvX P w K H H2 a hs := by
  obtain ⟨dx, s, t, ts, f1, f2, h1, h2, h3, h4⟩ := h
  exact ⟨dx, s, t, ts, f1, f2, e _ _ h1, e _ _ h2, e _ _ h3, paired_imp h4 fun _ _ q => q.mono e⟩
theorem SvX.old {P : Program} {w : World} {K : PySem.W.Frag} {H0 H H1 : Hp} {a : Addr} {hs : Hs} (h : SvX P w K H H1 a hs) (e : Same H0 H) : SvX P w K H0 H1 a hs := by
  obtain ⟨dx, s, t, ts, f1, f2, r⟩ := h
  exact ⟨dx, s, t, ts, e.free f1, e.free f2, r⟩
theorem tSv_len {hs : Hs} (ok : OkHs hs) (hl : hs.length ≤ 5) : (tSv hs).length ≤ 30000 := by
  have h1 := lnSv_len (hs := hs) fun h hm => (ok.ok h hm).hi
  have h2 := joinL_len [10] 122 (lnSv hs) fun l hl => (lnSv_mem ok.ok ok.dy l hl).1
  have h3 : (lnSv hs).length * (122 + 1) ≤ 205 * 123 := Nat.mul_le_mul_right _ (by omega)
  exact Nat.le_trans h2 (Nat.le_trans h3 (by decide))
theorem tSt_len {es : List Ev} (ok : ∀ e ∈ es, OkEv e) (hl : es.length ≤ 20) : (tSt es).length ≤ 30000 := by
  have h2 := joinL_len [10] 130 (es.map tEv) (evs_lens ok)
  have h3 : (es.map tEv).length * (130 + 1) ≤ 20 * 131 := Nat.mul_le_mul_right _ (by rw [List.length_map]; omega)
  exact Nat.le_trans h2 (Nat.le_trans h3 (by decide))
end K88
set_option maxHeartbeats 4000000
/-! The law's own history. -/
namespace K88
open PySem PySem.Spec PyProof.Rows L2 LamX
def okWB (w : Wd) : Bool := Nat.ble 1 w.length && Nat.ble w.length 12 && w.all fun c => Nat.ble 97 c && Nat.ble c 122
theorem okWB_ok {w : Wd} (h : okWB w = true) : OkW w := by
  simp only [okWB, Bool.and_eq_true, List.all_eq_true] at h
  exact ⟨Nat.le_of_ble_eq_true h.1.1, Nat.le_of_ble_eq_true h.1.2, fun c hc => ⟨Nat.le_of_ble_eq_true (h.2 c hc).1, Nat.le_of_ble_eq_true (h.2 c hc).2⟩⟩
def okAB (a : Ad) : Bool := Nat.ble a.length 4 && a.all okWB
theorem okAB_ok {a : Ad} (h : okAB a = true) : OkA a := by
  simp only [okAB, Bool.and_eq_true, List.all_eq_true] at h
  exact ⟨Nat.le_of_ble_eq_true h.1, fun w hw => okWB_ok (h.2 w hw)⟩
def okEvB : Ev → Bool
  | .pl _ d _ n p => Nat.ble d 1000000 && okWB n && okAB p
  | .merge d _ n o => Nat.ble d 1000000 && okWB n && okWB o
  | .take d _ n => Nat.ble d 1000000 && okWB n
theorem okEvB_ok {e : Ev} (h : okEvB e = true) : OkEv e := by
  cases e with
  | pl v d s n p =>
    simp only [okEvB, Bool.and_eq_true] at h
    exact ⟨Nat.le_of_ble_eq_true h.1.1, okWB_ok h.1.2, okAB_ok h.2⟩
  | merge d s n o =>
    simp only [okEvB, Bool.and_eq_true] at h
    exact ⟨Nat.le_of_ble_eq_true h.1.1, okWB_ok h.1.2, okWB_ok h.2⟩
  | take d s n =>
    simp only [okEvB, Bool.and_eq_true] at h
    exact ⟨Nat.le_of_ble_eq_true h.1, okWB_ok h.2⟩
def dayB (st : SS) (e : Ev) : Bool := okEvB e && st.ev.all fun x => Nat.ble x.day e.day
theorem dayB_ok {st : SS} {e : Ev} (h : dayB st e = true) : Day st e := by
  simp only [dayB, Bool.and_eq_true, List.all_eq_true] at h
  exact ⟨okEvB_ok h.1, fun x hx => Nat.le_of_ble_eq_true (h.2 x hx)⟩
def freeB (st : SS) (s : Bool) (p : Ad) : Bool := st.sp.all fun x => match aget st.so x.1 with
  | some s' => decide (x.2 = p → s' ≠ s)
  | none => false
theorem freeB_ok {st : SS} {s : Bool} {p : Ad} (h : freeB st s p = true) : FreeAt st s p := fun x hx => by
  have q := List.all_eq_true.mp h x hx
  cases e : aget st.so x.1 with
  | none => rw [e] at q; cases q
  | some s' =>
    rw [e] at q
    exact ⟨s', rfl, of_decide_eq_true q⟩
def canB (st : SS) (e : Ev) : Bool := dayB st e && match e with
  | .pl .put _ s n p => (aget st.so n).isNone && freeB st s p
  | .pl .move _ s n p => decide (aget st.so n = some s) && (aget st.sp n).isSome && freeB st s p
  | .pl .bring _ s n p => decide (aget st.so n = some s) && (aget st.sp n).isNone && (aget st.ot n).isSome && freeB st s p
  | .merge _ s n o => decide (aget st.so n = some s) && decide (aget st.so o = some s) && (aget st.sp n).isSome && (aget st.sp o).isSome && decide (n ≠ o)
  | .take _ s n => decide (aget st.so n = some s) && (aget st.sp n).isSome
theorem canB_ok {st : SS} {e : Ev} (h : canB st e = true) : Can st e := by
  unfold canB at h
  rw [Bool.and_eq_true] at h
  obtain ⟨hd, h⟩ := h
  have D := dayB_ok hd
  cases e with
  | pl v d s n p =>
    cases v with
    | put =>
      simp only [Bool.and_eq_true, Option.isNone_iff_eq_none] at h
      exact ⟨D, h.1, freeB_ok h.2⟩
    | move =>
      simp only [Bool.and_eq_true, decide_eq_true_eq, Option.isSome_iff_exists] at h
      exact ⟨D, h.1.1, h.1.2, freeB_ok h.2⟩
    | bring =>
      simp only [Bool.and_eq_true, decide_eq_true_eq, Option.isSome_iff_exists, Option.isNone_iff_eq_none] at h
      exact ⟨D, h.1.1.1, h.1.1.2, h.1.2, freeB_ok h.2⟩
  | merge d s n o =>
    simp only [Bool.and_eq_true, decide_eq_true_eq, Option.isSome_iff_exists] at h
    exact ⟨D, h.1.1.1.1, h.1.1.1.2, h.1.1.2, h.1.2, h.2⟩
  | take d s n =>
    simp only [Bool.and_eq_true, decide_eq_true_eq, Option.isSome_iff_exists] at h
    exact ⟨D, h.1, h.2⟩
def canAllB : SS → List Ev → Bool
  | _, [] => true
  | st, e :: es => canB st e && canAllB (st.doEv e) es
theorem canAllB_ok : ∀ (es : List Ev) (st : SS) (k : Nat), Wf st → Sz k st → k + es.length < 40 → canAllB st es = true → CanAll st es
  | [], _, _, w, _, _, _ => w
  | e :: es, st, k, w, z, hk, h => by
    have h : (canB st e && canAllB (st.doEv e) es) = true := h
    rw [Bool.and_eq_true] at h
    have c := canB_ok h.1
    rw [List.length_cons] at hk
    exact ⟨w, c, canAllB_ok es (st.doEv e) (k + 1) (w.step c.okEv z (by omega)) (z.step e) (by omega) h.2⟩
def sMonday : Wd := [109, 111, 110, 100, 97, 121]
def ownW : List Wd := [sTo, sFor, sAt, sInto, sPage, sSection, sGone, sDay, sPut, sMonday, sTake]
def ownR (o : Wd) : Ru := ⟨false, [o], .to [sDay, o] 3⟩
def ownHs : Hs := [(5, ownW.map ownR), (9, [⟨true, [sMonday], .gone⟩])]
/-- the i-th of the put events -/
def ownP (i : Nat) (o : Wd) : Ev := .pl .put 0 (i % 2 == 1) o [o, sAt]
def ownE0 : List Ev := [ownP 0 sTo, ownP 1 sFor, ownP 2 sAt, ownP 3 sInto, ownP 4 sPage, ownP 5 sSection, ownP 6 sGone, ownP 7 sDay, ownP 8 sPut, ownP 9 sMonday, ownP 10 sTake]
def ownE1 : List Ev := [.merge 1 false sTo sAt, .pl .move 2 true sFor [sTo, sInto]]
def ownE2 : List Ev := [.take 2 false sAt, .pl .bring 3 false sTo [sBring]]
def ownEs : List Ev := ownE0 ++ ownE1 ++ ownE2
theorem nilWf : Wf SS.nil := ⟨(fun _ z => nomatch z), (fun _ z => nomatch z), Nat.zero_le _, Nat.zero_le _, Nat.zero_le _, Nat.zero_le _, Nat.zero_le _⟩
theorem nilSz : Sz 0 SS.nil := ⟨Nat.le_refl _, Nat.le_refl _, Nat.le_refl _, Nat.le_refl _, Nat.le_refl _⟩
theorem own_ca : CanAll SS.nil ownEs := canAllB_ok ownEs SS.nil 0 nilWf nilSz (by decide) (by decide +kernel)
theorem ownW_ok : ∀ o ∈ ownW, OkW o := fun o ho => okWB_ok (List.all_eq_true.mp (show ownW.all okWB = true by decide +kernel) o ho)
theorem own_hs : OkHs ownHs := by
  have h1 : OkRs (ownW.map ownR) := by
    refine ⟨fun r hr => ?_, by decide +kernel, by decide +kernel⟩
    obtain ⟨o, ho, rfl⟩ := List.mem_map.mp hr
    have ok := ownW_ok o ho
    refine ⟨⟨show 1 ≤ 4 by decide, fun w hw => ?_⟩, ⟨show 2 ≤ 4 by decide, fun w hw => ?_⟩, by decide⟩
    · rw [List.mem_singleton.mp hw]
      exact ok
    · simp only [ownR, List.mem_cons, List.not_mem_nil, or_false] at hw
      rcases hw with rfl | rfl
      · exact okWB_ok (by decide +kernel)
      · exact ok
  have h2 : OkRs [⟨true, [sMonday], .gone⟩] := by
    refine ⟨fun r hr => ?_, by decide +kernel, by decide +kernel⟩
    rw [List.mem_singleton.mp hr]
    exact ⟨okAB_ok (by decide +kernel), trivial⟩
  refine ⟨fun h hh => ?_, fun h hh => ?_, by decide +kernel, by decide⟩
  · simp only [ownHs, List.mem_cons, List.not_mem_nil, or_false] at hh
    rcases hh with rfl | rfl
    · exact h1
    · exact h2
  · simp only [ownHs, List.mem_cons, List.not_mem_nil, or_false] at hh
    rcases hh with rfl | rfl <;> decide
theorem own_get {i : Nat} {o : Wd} (h : ownW[i]? = some o) : ownE0[i]? = some (ownP i o) := by
  have hi : i < 11 := (List.getElem?_eq_some_iff.mp h).1
  match i, hi with
  | 0, _ | 1, _ | 2, _ | 3, _ | 4, _ | 5, _ | 6, _ | 7, _ | 8, _ | 9, _ | 10, _ => cases h; rfl
  | n + 11, hi => exact absurd hi (by omega)
def ownS : List V := (List.replicate 6 [vW sPage, vW sSection]).flatten
theorem ownS_get {i : Nat} (h : i < 12) : ownS[i]? = some (vW (sortN (i % 2 == 1))) := by
  match i, h with
  | 0, _ | 1, _ | 2, _ | 3, _ | 4, _ | 5, _ | 6, _ | 7, _ | 8, _ | 9, _ | 10, _ | 11, _ => rfl
  | n + 12, hi => exact absurd hi (by omega)
theorem lv_for : V.str (Str.ofString "for") = vW sFor := by decide +kernel
theorem lv_day : V.str (Str.ofString "day") = vW sDay := by decide +kernel
theorem lv_monday : V.str (Str.ofString "monday") = vW sMonday := by decide +kernel
end K88
namespace K88
open PySem PySem.Spec PyProof.Rows L2 LamX
theorem nw_step {H : Hp} {p : Addr} (o : HO) (hp : H p = none) : ∃ H', upd H p o = H' ∧ Same H H' ∧ H' p = some o := ⟨_, rfl, (Same.refl H).nw hp, upd_same⟩
theorem ru_snoc {K : PySem.W.Frag} {H : Hp} {D : Addr} {acc : List V} {rs : List Ru} {v : V} {r : Ru} (e : H D = some (.lst acc)) (h : RusAt K H acc rs) (hr : RuAt K H v r) : RusAt K (upd H D (.lst (acc ++ [v]))) (acc ++ [v]) (rs ++ [r]) :=
  RusAt.kt (paired_snoc hr h) ((Same.refl H).kt.mut e trivial)
theorem ev_snoc {K : PySem.W.Frag} {H : Hp} {D : Addr} {acc : List V} {es : List Ev} {v : V} {r : Ev} (e : H D = some (.lst acc)) (h : Paired (EvAt K H) acc es) (hr : EvAt K H v r) : Paired (EvAt K (upd H D (.lst (acc ++ [v])))) (acc ++ [v]) (es ++ [r]) :=
  paired_imp (paired_snoc hr h) fun _ _ q => q.kt ((Same.refl H).kt.mut e trivial)
theorem paired_app {α β : Type} {F : α → β → Prop} : ∀ {l l' : List α} {m m' : List β}, Paired F l m → Paired F l' m' → Paired F (l ++ l') (m ++ m')
  | _, _, _, _, .nil, h => h
  | _, _, _, _, .cons r t, h => .cons r (paired_app t h)
end K88
set_option maxHeartbeats 4000000
/-! The law. -/
namespace K88
open PySem PySem.Spec PyProof.Rows L2 LamX
/-- what is drawn, and what a turn leans on -/
structure Drw (K : PySem.W.Frag) (tP l p1 p2 : Addr) (hs : Hs) (es : List Ev) (H : Hp) : Prop where
  lns : ∃ xs, H p1 = some (.lst xs) ∧ LnsAt K H p1 xs hs
  evs : ∃ xs, H p2 = some (.lst xs) ∧ Paired (EvAt K H) xs es
  wl : WlAt H l
  tb : TabS H tP lamQ
structure DrwP (hs : Hs) (es : List Ev) : Prop where
  ok : OkHs hs
  hl : hs.length ≤ 4
  hd : ∀ h ∈ hs, h.1 ≤ 500
  ca : CanAll SS.nil es
  el : es.length ≤ 9
  ed : ∀ e ∈ es, LEv e ∧ e.day ≤ 500
section
variable {P : Program} {w : World} {K : PySem.W.Frag} {mg : Str → Option Value} {base : Heap}
theorem Drw.en {tP l p1 p2 : Addr} {hs : Hs} {es : List Ev} {H H' : Hp} (h : Drw K tP l p1 p2 hs es H) (s : ExtN H H') (t : TabS H' tP lamQ) : Drw K tP l p1 p2 hs es H' := by
  obtain ⟨xs, e1, e2⟩ := h.lns
  obtain ⟨ys, e3, e4⟩ := h.evs
  exact ⟨⟨xs, s _ _ e1 (fun _ z => nomatch z), e2.en s⟩, ⟨ys, s _ _ e3 (fun _ z => nomatch z), paired_imp e4 fun _ _ q => q.kt s.kt⟩, h.wl.en s, t⟩
theorem Drw.same {tP l p1 p2 : Addr} {hs : Hs} {es : List Ev} {H H' : Hp} (h : Drw K tP l p1 p2 hs es H) (s : Same H H') : Drw K tP l p1 p2 hs es H' := h.en (ExtN.of s) (h.tb.ext s)
abbrev N_law : List Str := ["_law_script", "_law_start", "_law_well_here", "_law_turn", "_law_lines", "_law_events", "_law_server_here", "_law_site_here", "_law_told", "_law_text", "_law_event", "_law_fresh", "_law_copy", "_law_last", "_law_own", "_law_one", "_law_sorts", "_law_sort"]
theorem sc_law : FnScope N_law ["_law_script"] (defScope s_law) := ⟨rfl, rfl, rfl, by decide +kernel, rfl, by decide +kernel, by decide +kernel⟩
theorem st_law (x0 : V) : L2.start N_law [x0] = [some x0, none, none, none, none, none, none, none, none, none, none, none, none, none, none, none, none, none] := rfl
def p_law (K : PySem.W.Frag) (tP : Addr) : V → Hp → VK → Prop := fun v H Q => ∃ (a : Addr) (ns : List Int), v = .ref a ∧ SqL K H a (ns.map V.int) ∧ ns.length ≤ 63 ∧ (∀ z ∈ ns, PySem.Builtin.Int.intBits z ≤ 1048576) ∧ TabS H tP lamQ ∧ ∀ H', Q (.bl true) H'
theorem ok_law {c tP : Addr} {fd : FuncData} (F : FunD K "law" "law" (defArgs s_law) (defBody s_law) (defScope s_law) [] [] a_law fd) (L : Lw K mg) (LT : LamT K mg base a_law_table_text c tP) : FnOk P w K mg base CX0 13 a_law fd ["_law_script"] (sp1 (p_law K tP)) := by
  refine fn_okD F sc_law (len1 rfl) fun cdv A outer s H vs Q E hr h => ?_
  obtain ⟨_, rfl, a, ns, rfl, hq, hnl, hnb, tb, k⟩ := h
  have nd := sc_law.nd
  refine ⟨_, (pss_cons (ps_for PassesOwn.never rfl (pi_range1 rfl L.z_range (pa_cons (pe_callB (call_max2 rfl) (by rfl) L.z_max (by decide +kernel) (pa_cons pe_int (pa_cons (pe_callB (call_min2 rfl) (by rfl) L.z_min (by decide +kernel) (pa_cons pe_int (pa_cons (pe_callB call_len (by rfl) L.z_len (by decide +kernel) (pa_cons (pv 0) pa_nil)) pa_nil))) pa_nil))) pa_nil)) (pg_name (i := 1) nd rfl (Or.inl rfl)) (pss_cons (ps_set (i := 2) nd rfl (Or.inl rfl) (pe_g (ok_law_well L) (hr.mono (by decide)) rfl L.g_law_well L.law_well.kp (pa_cons (pv 0) (pa_cons (pv 1) pa_nil)))) (pss_one (ps_for PassesOwn.never rfl (pi_range1 rfl L.z_range (pa_cons pe_int pa_nil)) (pg_name (i := 3) nd rfl (Or.inl rfl)) (pss_cons (ps_par (i := 4) (j := 5) rfl nd rfl rfl (by decide) rfl rfl (pa_cons (pe_g (ok_law_tables L) (hr.mono (by decide)) rfl L.g_law_tables L.law_tables.kp (pa_cons (pv 2) (pa_cons pe_int pa_nil))) (pa_cons (pe_g (ok_law_site_steps L) (hr.mono (by decide)) rfl L.g_law_site_steps L.law_site_steps.kp (pa_cons (pv 2) (pa_cons pe_int pa_nil))) pa_nil)) (by rfl)) (pss_cons (ps_par (i := 6) (j := 7) rfl nd rfl rfl (by decide) rfl rfl (pa_cons (pe_g (ok_law_server L) (hr.mono (by decide)) rfl L.g_law_server L.law_server.kp (pa_cons (pv 4) pa_nil)) (pa_cons (pe_g (ok_law_site L) (hr.mono (by decide)) rfl L.g_law_site L.law_site.kp (pa_cons (pv 5) pa_nil)) pa_nil)) (by rfl)) (pss_cons (ps_par (i := 8) (j := 9) rfl nd rfl rfl (by decide) rfl rfl (pa_cons (pe_g (ok_law_server_text L LT) (hr.mono (by decide)) rfl L.g_law_server_text L.law_server_text.kp (pa_cons (pv 4) pa_nil)) (pa_cons (pe_join pe_str (pe_lc (own := [("_law_event", 10)]) (g := gName 10) rfl nd (pi_list (pv 5)) (blkOk_by (N := N_law) (sc := defScope s_law) (by decide +kernel)) (fun _ _ _ _ _ => (pg_name (i := 10) nd rfl (Or.inl rfl))) (fun _ _ _ _ _ => pts_nil) (fun _ _ _ _ _ => (pe_g (ok_law_event_text L) (hr.mono (by decide)) rfl L.g_law_event_text L.law_event_text.kp (pa_cons (pv 10) pa_nil))))) pa_nil)) (by rfl)) (pss_cons (ps_if (PW.pt (pw_or (pt_cmpR op_ne (pe_g (ok_server_text L) (hr.mono (by decide)) rfl L.g_server_text L.server_text.kp (pa_cons (pv 6) pa_nil)) (pv 8) (nomark _)) (pw_or1 (pt_cmpR op_ne (pe_g (ok_site_text L) (hr.mono (by decide)) rfl L.g_site_text L.site_text.kp (pa_cons (pv 7) pa_nil)) (pv 9) (nomark _))))) (pss_one (ps_ret pe_bl)) pss_nil) (pss_cons (ps_par (i := 11) (j := 12) rfl nd rfl rfl (by decide) rfl rfl (pa_cons (pe_g (ok_read_server L) (hr.mono (by decide)) rfl L.g_read_server L.read_server.kp (pa_cons (pv 8) pa_nil)) (pa_cons (pe_g (ok_read_site L) (hr.mono (by decide)) rfl L.g_read_site L.read_site.kp (pa_cons (pv 9) pa_nil)) pa_nil)) (by rfl)) (pss_cons (ps_if (PW.pt (pw_or (pt_not (pt_cmpR (op_eqG (rcG_server L) (hr.mono (by decide))) (pv 11) (pv 6) (nomark _))) (pw_or (pt_not (pt_cmpR (op_eqG (rcG_site L) (hr.mono (by decide))) (pv 12) (pv 7) (nomark _))) (pw_or (pt_cmpR (op_neD hr.units) (pe_m0 (pv 12) L.c_Site L.m_Site_claims (ok_Site_claims L) (hr.mono (by decide))) (pe_m0 (pv 7) L.c_Site L.m_Site_claims (ok_Site_claims L) (hr.mono (by decide))) (nomark _)) (pw_or1 (pt_cmpR (op_neD hr.units) (pe_m0 (pv 12) L.c_Site L.m_Site_events (ok_Site_events L) (hr.mono (by decide))) (pv 5) (nomark _))))))) (pss_one (ps_ret pe_bl)) pss_nil) (pss_cons (ps_expr (pe_m (pv 11) L.c_Server L.m_Server_set_table (ok_Server_set_table L) (hr.mono (by decide)) (pa_cons pe_int (pa_cons (pe_mk0 L.mk_Table (ok_Table_init0 L) (hr.mono (by decide)) rfl L.g_Table) pa_nil)))) (pss_cons (ps_expr (pe_m (pv 12) L.c_Site L.m_Site_put_page (ok_Site_put_page L) (hr.mono (by decide)) (pa_cons pe_int (pa_cons pe_str (pa_cons (pe_tup (pa_cons pe_str (pa_cons pe_str pa_nil))) pa_nil))))) (pss_cons (ps_set (i := 13) nd rfl (Or.inl rfl) (pe_ifExp (pt_cmpR op_ne (pv 8) pe_str (nomark _)) (pe_op op_add_str (pv 8) pe_str) pe_str)) (pss_cons (ps_if (PW.pt (pw_or (pt_cmpR op_ne (pe_g (ok_server_text L) (hr.mono (by decide)) rfl L.g_server_text L.server_text.kp (pa_cons (pv 11) pa_nil)) (pv 13) (nomark _)) (pw_or1 (pt_cmpR op_ne (pe_g (ok_server_text L) (hr.mono (by decide)) rfl L.g_server_text L.server_text.kp (pa_cons (pv 6) pa_nil)) (pv 8) (nomark _))))) (pss_one (ps_ret pe_bl)) pss_nil) (pss_cons (ps_set (i := 13) nd rfl (Or.inl rfl) (pe_ifExp (pt_cmpR op_ne (pv 9) pe_str (nomark _)) (pe_op op_add_str (pv 9) pe_str) pe_str)) (pss_one (ps_if (PW.pt (pw_or (pt_cmpR op_ne (pe_g (ok_site_text L) (hr.mono (by decide)) rfl L.g_site_text L.site_text.kp (pa_cons (pv 12) pa_nil)) (pv 13) (nomark _)) (pw_or1 (pt_cmpR op_ne (pe_g (ok_site_text L) (hr.mono (by decide)) rfl L.g_site_text L.site_text.kp (pa_cons (pv 7) pa_nil)) (pv 9) (nomark _))))) (pss_one (ps_ret pe_bl)) pss_nil))))))))))))))))) (pss_cons (ps_set (i := 14) nd rfl (Or.inl rfl) (pe_lst (pa_cons pe_str (pa_cons pe_str (pa_cons pe_str (pa_cons pe_str (pa_cons pe_str (pa_cons pe_str (pa_cons pe_str (pa_cons pe_str (pa_cons pe_str (pa_cons pe_str (pa_cons pe_str pa_nil))))))))))))) (pss_cons (ps_set (i := 4) nd rfl (Or.inl rfl) (pe_lst (pa_cons (pe_tup (pa_cons pe_int (pa_cons (pe_lc (own := [("_law_one", 15)]) (g := gName 15) rfl nd (pi_list (pv 14)) (blkOk_by (N := N_law) (sc := defScope s_law) (by decide +kernel)) (fun _ _ _ _ _ => (pg_name (i := 15) nd rfl (Or.inl rfl))) (fun _ _ _ _ _ => pts_nil) (fun _ _ _ _ _ => (pe_tup (pa_cons pe_str (pa_cons (pe_tup (pa_cons (pv 15) pa_nil)) (pa_cons (pe_tup (pa_cons pe_str (pa_cons (pe_tup (pa_cons pe_str (pa_cons (pv 15) pa_nil))) (pa_cons pe_int pa_nil)))) pa_nil)))))) pa_nil))) pa_nil))) (pss_cons (ps_expr (pe_bm PySem.F.plainAttrs_list PySem.F.slot_list_append PySem.F.type_list_append mt_append (pv 4) (pa_cons (pe_tup (pa_cons pe_int (pa_cons (pe_lst (pa_cons (pe_tup (pa_cons pe_str (pa_cons (pe_tup (pa_cons pe_str pa_nil)) (pa_cons (pe_tup (pa_cons pe_str pa_nil)) pa_nil)))) pa_nil)) pa_nil))) pa_nil))) (pss_cons (ps_set (i := 16) nd rfl (Or.inl rfl) (pe_op op_rep (pe_lst (pa_cons pe_str (pa_cons pe_str pa_nil))) pe_int)) (pss_cons (ps_setLc (i := 5) (own := [("_law_sort", 17), ("_law_one", 15)]) (g := gTup K 2 (gCons (gName 17) (gCons (gName 15) gNil))) rfl nd rfl rfl (sw_true rfl rfl rfl (by decide +kernel)) (pi_zip rfl L.z_zip (pa_cons (pv 16) (pa_cons (pv 14) pa_nil))) (blkOk_by (N := N_law) (sc := defScope s_law) (by decide +kernel)) (fun _ _ _ _ _ => (pg_tup rfl (pgs_cons (pg_name (i := 17) nd rfl (Or.inl rfl)) (pgs_cons (pg_name (i := 15) nd rfl (Or.inl rfl)) pgs_nil)))) (fun _ _ _ _ _ => pts_nil) (fun _ _ _ _ _ => (pe_tup (pa_cons pe_int (pa_cons pe_str (pa_cons (pv 17) (pa_cons (pv 15) (pa_cons (pe_tup (pa_cons (pv 15) (pa_cons pe_str pa_nil))) pa_nil)))))))) (pss_cons (ps_set (i := 5) nd rfl (Or.inl rfl) (pe_op op_cat (pv 5) (pe_lst (pa_cons (pe_tup (pa_cons pe_int (pa_cons pe_str (pa_cons pe_str (pa_cons pe_str (pa_cons pe_str pa_nil)))))) (pa_cons (pe_tup (pa_cons pe_int (pa_cons pe_str (pa_cons pe_str (pa_cons pe_str (pa_cons (pe_tup (pa_cons pe_str (pa_cons pe_str pa_nil))) pa_nil)))))) pa_nil))))) (pss_cons (ps_set (i := 5) nd rfl (Or.inl rfl) (pe_op op_cat (pv 5) (pe_lst (pa_cons (pe_tup (pa_cons pe_int (pa_cons pe_str (pa_cons pe_str (pa_cons pe_str pa_nil))))) (pa_cons (pe_tup (pa_cons pe_int (pa_cons pe_str (pa_cons pe_str (pa_cons pe_str (pa_cons (pe_tup (pa_cons pe_str pa_nil)) pa_nil)))))) pa_nil))))) (pss_cons (ps_set (i := 9) nd rfl (Or.inl rfl) (pe_join pe_str (pe_lc (own := [("_law_event", 10)]) (g := gName 10) rfl nd (pi_list (pv 5)) (blkOk_by (N := N_law) (sc := defScope s_law) (by decide +kernel)) (fun _ _ _ _ _ => (pg_name (i := 10) nd rfl (Or.inl rfl))) (fun _ _ _ _ _ => pts_nil) (fun _ _ _ _ _ => (pe_g (ok_law_event_text L) (hr.mono (by decide)) rfl L.g_law_event_text L.law_event_text.kp (pa_cons (pv 10) pa_nil)))))) (pss_cons (ps_if (pt_cmpR op_ne (pe_g (ok_server_text L) (hr.mono (by decide)) rfl L.g_server_text L.server_text.kp (pa_cons (pe_g (ok_read_server L) (hr.mono (by decide)) rfl L.g_read_server L.read_server.kp (pa_cons (pe_g (ok_law_server_text L LT) (hr.mono (by decide)) rfl L.g_law_server_text L.law_server_text.kp (pa_cons (pv 4) pa_nil)) pa_nil)) pa_nil)) (pe_g (ok_law_server_text L LT) (hr.mono (by decide)) rfl L.g_law_server_text L.law_server_text.kp (pa_cons (pv 4) pa_nil)) (nomark _)) (pss_one (ps_ret pe_bl)) pss_nil) (pss_cons (ps_if (PW.pt (pw_or (pt_cmpR op_ne (pe_g (ok_site_text L) (hr.mono (by decide)) rfl L.g_site_text L.site_text.kp (pa_cons (pe_g (ok_law_site L) (hr.mono (by decide)) rfl L.g_law_site L.law_site.kp (pa_cons (pv 5) pa_nil)) pa_nil)) (pv 9) (nomark _)) (pw_or1 (pt_not (pt_cmpR (op_eqG (rcG_site L) (hr.mono (by decide))) (pe_g (ok_read_site L) (hr.mono (by decide)) rfl L.g_read_site L.read_site.kp (pa_cons (pv 9) pa_nil)) (pe_g (ok_law_site L) (hr.mono (by decide)) rfl L.g_law_site L.law_site.kp (pa_cons (pv 5) pa_nil)) (nomark _)))))) (pss_one (ps_ret pe_bl)) pss_nil) (pss_one (ps_ret (pe_and (pe_cmpR op_eq (pe_g (ok_server_text L) (hr.mono (by decide)) rfl L.g_server_text L.server_text.kp (pa_cons (pe_mk0 L.mk_Server (ok_Server_init L) (hr.mono (by decide)) rfl L.g_Server) pa_nil)) pe_str (nomark _)) (pe_and (pe_cmpR (op_eqG (rcG_server L) (hr.mono (by decide))) (pe_g (ok_read_server L) (hr.mono (by decide)) rfl L.g_read_server L.read_server.kp (pa_cons pe_str pa_nil)) (pe_mk0 L.mk_Server (ok_Server_init L) (hr.mono (by decide)) rfl L.g_Server) (nomark _)) (pe_one (pe_cmpR (op_eqG (rcG_site L) (hr.mono (by decide))) (pe_g (ok_read_site L) (hr.mono (by decide)) rfl L.g_read_site L.read_site.kp (pa_cons pe_str pa_nil)) (pe_mk0 L.mk_Site (ok_Site_init L) (hr.mono (by decide)) rfl L.g_Site) (nomark _)))))))))))))))))), ?_⟩
  simp only [tSl, tPart, tNoPart, tCKw, tVals, gStar, gCons, gNil, StX.tStar, tFmtS, tFmtI, tM0, tJs, tM1, rNewStrs, tMatch, setAll, lit_to, lit_page, lit_section, lit_gone, lit_exact, lit_open, tAsg, tRet, tRetN, tDrop, tNext, tNever, tNot, tB, tTest, tCB, tCons, tVar, tC, tNil, tOp, tUn, tAndV, tOrV, tNotV, tChain, tTup, tLst, tCallR, tMethN, tMakeN, tPropN, tYes, gName, cx_K, cx_P, cx_w, rI0, rI, rEq, rNe, List.getElem?_cons_zero, List.getElem?_cons_succ, List.set_cons_zero, List.set_cons_succ, Option.some.injEq, exists_eq_left', exists_eq_left, V.bl.injEq, V.int.injEq, V.str.injEq, V.ref.injEq, List.cons.injEq, and_true, true_and, exists_and_left, and_assoc, List.append_nil, st_law]
  refine seq_cut (Src := fun σ H1 => (∃ o1 o2 o3 o4 o5 o6 o7 o8 o9 o10 o11 o12 o13 o14 o15 o16 o17, σ = [some (.ref a), o1, o2, o3, o4, o5, o6, o7, o8, o9, o10, o11, o12, o13, o14, o15, o16, o17]) ∧ TabS H1 tP lamQ) (fun R rr => ?_) ?_
  · refine tFor_cut (Src := fun J H1 => ∃ n, J = Itr 0 n ∧ n ≤ 4 ∧ H = H1) (fun R r => ?_) ?_
    · simp only [tSl, tPart, tNoPart, tCKw, tVals, gStar, gCons, gNil, StX.tStar, tFmtS, tFmtI, tM0, tJs, tM1, rNewStrs, tMatch, setAll, lit_to, lit_page, lit_section, lit_gone, lit_exact, lit_open, tSeq, tAsg, tIfS, tRet, tRetN, tDrop, tNext, tNever, tOr, tAnd, tNot, tB, tTest, tCB, tCons, tVar, tC, tNil, tOp, tUn, tIf, tAndV, tOrV, tNotV, tChain, tTup, tLst, tCallR, tMethN, tMakeN, tPropN, tYes, gName, cx_K, cx_P, cx_w, rI0, rI, rEq, rNe, List.getElem?_cons_zero, List.getElem?_cons_succ, List.set_cons_zero, List.set_cons_succ, Option.some.injEq, exists_eq_left', exists_eq_left, V.bl.injEq, V.int.injEq, V.str.injEq, V.ref.injEq, List.cons.injEq, and_true, true_and, exists_and_left, and_assoc, List.append_nil, iRng1]
      refine ⟨ns.length, .inl ⟨_, hq, by rw [List.length_map]⟩, ?_⟩
      have h2 : ∃ m : Nat, m ≤ 4 ∧ (if (if ((ns.length : Nat) : Int) < 4 then ((ns.length : Nat) : Int) else 4) > 2 then (if ((ns.length : Nat) : Int) < 4 then ((ns.length : Nat) : Int) else 4) else 2) = (m : Int) := by
        by_cases h4 : ((ns.length : Nat) : Int) < 4
        · rw [if_pos h4]
          by_cases h2 : ((ns.length : Nat) : Int) > 2
          · rw [if_pos h2]
            exact ⟨ns.length, by omega, rfl⟩
          · rw [if_neg h2]
            exact ⟨2, by decide, rfl⟩
        · rw [if_neg h4]
          exact ⟨4, by decide, rfl⟩
      obtain ⟨m, hm, em⟩ := h2
      rw [em]
      exact ⟨by omega, by omega, r _ _ ⟨m, by rw [Int.toNat_natCast], hm, rfl⟩⟩
    rintro J _ ⟨n, rfl, hn, rfl⟩
    refine tFor_w walk_range (fun R r => r) (fun i σ H' => (∃ o1 o2 o3 o4 o5 o6 o7 o8 o9 o10 o11 o12 o13 o14 o15 o16 o17, σ = [some (.ref a), o1, o2, o3, o4, o5, o6, o7, o8, o9, o10, o11, o12, o13, o14, o15, o16, o17]) ∧ ExtN H H' ∧ TabS H' tP lamQ) ⟨⟨_, _, _, _, _, _, _, _, _, _, _, _, _, _, _, _, _, rfl⟩, ExtN.refl H, tb⟩ (fun _ _ _ _ _ => trivial) ?_ ?_
    · rintro i x σ H4 H5 hi ⟨⟨o1, o2, o3, o4, o5, o6, o7, o8, o9, o10, o11, o12, o13, o14, o15, o16, o17, rfl⟩, e4, t4⟩ ⟨rfl, rfl⟩
      refine sasg_cut (Src := fun v H6 => ∃ l, v = .ref l ∧ H5 l = none ∧ Same H5 H6 ∧ WlAt H6 l) (fun R r => ?_) ?_
      · simp only [tSl, tPart, tNoPart, tCKw, tVals, gStar, gCons, gNil, StX.tStar, tFmtS, tFmtI, tM0, tJs, tM1, rNewStrs, tMatch, setAll, lit_to, lit_page, lit_section, lit_gone, lit_exact, lit_open, tSeq, tAsg, tIfS, tRet, tRetN, tDrop, tNext, tNever, tOr, tAnd, tNot, tB, tTest, tCB, tCons, tVar, tC, tNil, tOp, tUn, tIf, tAndV, tOrV, tNotV, tChain, tTup, tLst, tCallR, tMethN, tMakeN, tPropN, tYes, gName, cx_K, cx_P, cx_w, rI0, rI, rEq, rNe, List.getElem?_cons_zero, List.getElem?_cons_succ, List.set_cons_zero, List.set_cons_succ, Option.some.injEq, exists_eq_left', exists_eq_left, V.bl.injEq, V.int.injEq, V.str.injEq, V.ref.injEq, List.cons.injEq, and_true, true_and, exists_and_left, and_assoc, List.append_nil]
        refine ⟨_, _, rfl, a, ns, i, rfl, by rw [Int.zero_add], SqL.en hq e4, hnb, by omega, fun l H6 s6 hl hw => r _ _ ⟨l, rfl, hl, s6, hw⟩⟩
      rintro _ H6 ⟨l, rfl, hl0, s6, hw6⟩
      have t6 := t4.ext s6
      refine tFor_w (J := Itr 0 3) (n := 3) walk_range (fun _ R => ?_) (fun j σ H' => (∃ o3 o4 o5 o6 o7 o8 o9 o10 o11 o12 o13 o14 o15 o16 o17, σ = [some (.ref a), some (.int (0 + (i : Int))), some (.ref l), o3, o4, o5, o6, o7, o8, o9, o10, o11, o12, o13, o14, o15, o16, o17]) ∧ ExtN H5 H' ∧ WlAt H' l ∧ TabS H' tP lamQ) ⟨⟨_, _, _, _, _, _, _, _, _, _, _, _, _, _, _, rfl⟩, ExtN.of s6, hw6, t6⟩ (fun _ _ _ _ _ => trivial) ?_ ?_
      · simp only [tSl, tPart, tNoPart, tCKw, tVals, gStar, gCons, gNil, StX.tStar, tFmtS, tFmtI, tM0, tJs, tM1, rNewStrs, tMatch, setAll, lit_to, lit_page, lit_section, lit_gone, lit_exact, lit_open, tSeq, tAsg, tIfS, tRet, tRetN, tDrop, tNext, tNever, tOr, tAnd, tNot, tB, tTest, tCB, tCons, tVar, tC, tNil, tOp, tUn, tIf, tAndV, tOrV, tNotV, tChain, tTup, tLst, tCallR, tMethN, tMakeN, tPropN, tYes, gName, cx_K, cx_P, cx_w, rI0, rI, rEq, rNe, List.getElem?_cons_zero, List.getElem?_cons_succ, List.set_cons_zero, List.set_cons_succ, Option.some.injEq, exists_eq_left', exists_eq_left, V.bl.injEq, V.int.injEq, V.str.injEq, V.ref.injEq, List.cons.injEq, and_true, true_and, exists_and_left, and_assoc, List.append_nil, iRng1]
        exact ⟨by decide, by decide, R⟩
      · rintro j x σ H7 H8 hj ⟨⟨o3, o4, o5, o6, o7, o8, o9, o10, o11, o12, o13, o14, o15, o16, o17, rfl⟩, e7, hw7, t7⟩ ⟨rfl, rfl⟩
        refine seq_cut (Src := fun σ H9 => ∃ p1 p2 hs es, σ = [some (.ref a), some (.int (0 + (i : Int))), some (.ref l), some (.int (0 + (j : Int))), some (.ref p1), some (.ref p2), o6, o7, o8, o9, o10, o11, o12, o13, o14, o15, o16, o17] ∧ Drw K tP l p1 p2 hs es H9 ∧ DrwP hs es ∧ ExtN H5 H9) (fun R r => ?_) ?_
        · simp only [tSl, tPart, tNoPart, tCKw, tVals, gStar, gCons, gNil, StX.tStar, tFmtS, tFmtI, tM0, tJs, tM1, rNewStrs, tMatch, setAll, lit_to, lit_page, lit_section, lit_gone, lit_exact, lit_open, tSeq, tAsg, tIfS, tRet, tRetN, tDrop, tNext, tNever, tOr, tAnd, tNot, tB, tTest, tCB, tCons, tVar, tC, tNil, tOp, tUn, tIf, tAndV, tOrV, tNotV, tChain, tTup, tLst, tCallR, tMethN, tMakeN, tPropN, tYes, gName, cx_K, cx_P, cx_w, rI0, rI, rEq, rNe, List.getElem?_cons_zero, List.getElem?_cons_succ, List.set_cons_zero, List.set_cons_succ, Option.some.injEq, exists_eq_left', exists_eq_left, V.bl.injEq, V.int.injEq, V.str.injEq, V.ref.injEq, List.cons.injEq, and_true, true_and, exists_and_left, and_assoc, List.append_nil, tPar]
          refine ⟨_, _, rfl, l, 4, rfl, rfl, by decide, hw7, fun p1 xs hs H9 e1 ln ok hl hd s9 hw9 => ⟨_, _, rfl, l, 9, rfl, rfl, by decide, hw9, fun p2 ys es H10 e2 ev ca el ed s10 hw10 => ?_⟩⟩
          have n1 : p1 ≠ l := hw9.ne e1 fun _ z => nomatch z
          have eL : ExtN H5 H10 := fun b o e n => s10 _ _ (ne_of_none e hl0) (s9 _ _ (ne_of_none e hl0) (e7 b o e n))
          have t10 : TabS H10 tP lamQ := by
            obtain ⟨_, _, z, _⟩ := hw7
            obtain ⟨_, _, z9, _⟩ := hw9
            exact TabS.sb (TabS.sb t7 z trivial (fun _ z => nomatch z) s9) z9 trivial (fun _ z => nomatch z) s10
          exact r _ _ ⟨p1, p2, hs, es, rfl, ⟨⟨xs, s10 _ _ n1 e1, ln.sb hw9 s10⟩, ⟨ys, e2, ev⟩, hw10, t10⟩, ⟨ok, hl, hd, ca, el, ed⟩, eL⟩
        rintro _ H9 ⟨p1, p2, hs, es, rfl, D9, DP, e9⟩
        refine seq_cut (Src := fun σ H10 => ∃ sa sb pt, σ = [some (.ref a), some (.int (0 + (i : Int))), some (.ref l), some (.int (0 + (j : Int))), some (.ref p1), some (.ref p2), some (.ref sa), some (.ref sb), o8, o9, o10, o11, o12, o13, o14, o15, o16, o17] ∧ Drw K tP l p1 p2 hs es H10 ∧ SvAt P w K H10 sa hs ∧ SiteAt K H10 sb (SS.nil.doAll es) pt ∧ ExtN H5 H10) (fun R r => ?_) ?_
        · simp only [tSl, tPart, tNoPart, tCKw, tVals, gStar, gCons, gNil, StX.tStar, tFmtS, tFmtI, tM0, tJs, tM1, rNewStrs, tMatch, setAll, lit_to, lit_page, lit_section, lit_gone, lit_exact, lit_open, tSeq, tAsg, tIfS, tRet, tRetN, tDrop, tNext, tNever, tOr, tAnd, tNot, tB, tTest, tCB, tCons, tVar, tC, tNil, tOp, tUn, tIf, tAndV, tOrV, tNotV, tChain, tTup, tLst, tCallR, tMethN, tMakeN, tPropN, tYes, gName, cx_K, cx_P, cx_w, rI0, rI, rEq, rNe, List.getElem?_cons_zero, List.getElem?_cons_succ, List.set_cons_zero, List.set_cons_succ, Option.some.injEq, exists_eq_left', exists_eq_left, V.bl.injEq, V.int.injEq, V.str.injEq, V.ref.injEq, List.cons.injEq, and_true, true_and, exists_and_left, and_assoc, List.append_nil, tPar]
          obtain ⟨xs, ep1, ln⟩ := D9.lns
          refine ⟨_, rfl, p1, p1, xs, hs, rfl, ep1, ln, DP.ok, fun sa H10 s10 _ hsv => ?_⟩
          obtain ⟨ys, ep2, ev⟩ := D9.evs
          refine ⟨_, rfl, p2, ys, es, rfl, s10 _ _ ep2, paired_imp ev fun _ _ q => q.kt s10.kt, DP.ca, fun sb pt H11 s11 _ _ hst => ?_⟩
          exact r _ _ ⟨sa, sb, pt, rfl, D9.same (s10.trans s11), hsv.mono s11, hst, e9.trans (ExtN.of (s10.trans s11))⟩
        rintro _ H10 ⟨sa, sb, pt, rfl, D10, Sv10, St10, e10⟩
        refine seq_cut (Src := fun σ H11 => σ = [some (.ref a), some (.int (0 + (i : Int))), some (.ref l), some (.int (0 + (j : Int))), some (.ref p1), some (.ref p2), some (.ref sa), some (.ref sb), some (.str (T (tSv hs))), some (.str (T (tSt es))), o10, o11, o12, o13, o14, o15, o16, o17] ∧ Drw K tP l p1 p2 hs es H11 ∧ SvAt P w K H11 sa hs ∧ SiteAt K H11 sb (SS.nil.doAll es) pt ∧ ExtN H5 H11) (fun R r => ?_) ?_
        · simp only [tSl, tPart, tNoPart, tCKw, tVals, gStar, gCons, gNil, StX.tStar, tFmtS, tFmtI, tM0, tJs, tM1, rNewStrs, tMatch, setAll, lit_to, lit_page, lit_section, lit_gone, lit_exact, lit_open, tSeq, tAsg, tIfS, tRet, tRetN, tDrop, tNext, tNever, tOr, tAnd, tNot, tB, tTest, tCB, tCons, tVar, tC, tNil, tOp, tUn, tIf, tAndV, tOrV, tNotV, tChain, tTup, tLst, tCallR, tMethN, tMakeN, tPropN, tYes, gName, cx_K, cx_P, cx_w, rI0, rI, rEq, rNe, List.getElem?_cons_zero, List.getElem?_cons_succ, List.set_cons_zero, List.set_cons_succ, Option.some.injEq, exists_eq_left', exists_eq_left, V.bl.injEq, V.int.injEq, V.str.injEq, V.ref.injEq, List.cons.injEq, and_true, true_and, exists_and_left, and_assoc, List.append_nil, tPar]
          obtain ⟨xs, ep1, ln⟩ := D10.lns
          refine ⟨_, rfl, p1, p1, xs, hs, rfl, ep1, ln, DP.ok, D10.tb, fun H11 e11 t11 => ⟨⟨_, rfl⟩, ?_⟩⟩
          have D11 := D10.en e11 t11
          obtain ⟨ys, ep2, ev⟩ := D11.evs
          have hxl := Paired.length ev
          have okE := DP.ca.last.okE
          rw [doAll_ev] at okE
          have okE : ∀ x ∈ es, OkEv x := okE
          have el := DP.el
          refine tLc_strs (walk_list (a := p2) (xs := ys)) (fun R r => ⟨_, rfl, p2, rfl, ⟨_, SqL.of ep2⟩, r⟩) (es.map tEv) (by rw [List.length_map, hxl]) (by omega) (fun H' s => SqL.of (s _ _ ep2)) (fun _ => rfl) ?_ ?_
          · rintro i' x H12 H13 l' Q' hl' s12 ⟨rfl, hxi⟩ k'
            obtain ⟨e, hei, hea⟩ := paired_get ev hxi
            rw [List.getElem?_map, hei] at hl'
            cases hl'
            simp only [tSl, tPart, tNoPart, tCKw, tVals, gStar, gCons, gNil, StX.tStar, tFmtS, tFmtI, tM0, tJs, tM1, rNewStrs, tMatch, setAll, lit_to, lit_page, lit_section, lit_gone, lit_exact, lit_open, tSeq, tAsg, tIfS, tRet, tRetN, tDrop, tNext, tNever, tOr, tAnd, tNot, tB, tTest, tCB, tCons, tVar, tC, tNil, tOp, tUn, tIf, tAndV, tOrV, tNotV, tChain, tTup, tLst, tCallR, tMethN, tMakeN, tPropN, tYes, gName, cx_K, cx_P, cx_w, rI0, rI, rEq, rNe, List.getElem?_cons_zero, List.getElem?_cons_succ, List.set_cons_zero, List.set_cons_succ, Option.some.injEq, exists_eq_left', exists_eq_left, V.bl.injEq, V.int.injEq, V.str.injEq, V.ref.injEq, List.cons.injEq, and_true, true_and, exists_and_left, and_assoc, List.append_nil, wipe, List.map_cons, List.map_nil]
            exact ⟨_, rfl, e, hea.kt s12.kt, okE e (List.mem_of_getElem? hei), k'⟩
          · intro q H12 hq s12 e12
            refine ⟨q, rfl, (es.map tEv).map T, .inl (SqL.of e12), ?_, ?_⟩
            · rw [lx_nl]
              exact join_len (evs_lens okE) (by decide) (by rw [List.length_map]; omega)
            · rw [lx_nl, join_T]
              have s0 := e11.trans (ExtN.of s12)
              exact r _ _ ⟨rfl, D11.same s12, Sv10.en s0, St10.en s0, e10.trans s0⟩
        rintro _ H11 ⟨rfl, D11, Sv11, St11, e11⟩
        have hev : (SS.nil.doAll es).ev = es := doAll_ev es SS.nil
        refine sif_nx (fun R r => ?_) fun H12 s12 => ?_
        · simp only [tSl, tPart, tNoPart, tCKw, tVals, gStar, gCons, gNil, StX.tStar, tFmtS, tFmtI, tM0, tJs, tM1, rNewStrs, tMatch, setAll, lit_to, lit_page, lit_section, lit_gone, lit_exact, lit_open, tSeq, tAsg, tIfS, tRet, tRetN, tDrop, tNext, tNever, tOr, tAnd, tNot, tB, tTest, tCB, tCons, tVar, tC, tNil, tOp, tUn, tIf, tAndV, tOrV, tNotV, tChain, tTup, tLst, tCallR, tMethN, tMakeN, tPropN, tYes, gName, cx_K, cx_P, cx_w, rI0, rI, rEq, rNe, List.getElem?_cons_zero, List.getElem?_cons_succ, List.set_cons_zero, List.set_cons_succ, Option.some.injEq, exists_eq_left', exists_eq_left, V.bl.injEq, V.int.injEq, V.str.injEq, V.ref.injEq, List.cons.injEq, and_true, true_and, exists_and_left, and_assoc, List.append_nil]
          refine ⟨_, rfl, sa, hs, rfl, Sv11, DP.ok, fun Ha sA => ⟨rfl, ?_⟩⟩
          rw [decide_eq_true rfl]
          refine iteF ⟨_, rfl, sb, _, pt, rfl, St11.mono sA, DP.ca.last, fun Hb sB => ⟨rfl, ?_⟩⟩
          rw [hev, decide_eq_true rfl]
          exact r _ (sA.trans sB)
        have D12 := D11.same s12
        have Sv12 := Sv11.mono s12
        have St12 := St11.mono s12
        have e12 := e11.trans (ExtN.of s12)
        clear D9 D10 D11 Sv10 Sv11 St10 St11 e9 e10 e11
        refine seq_cut (Src := fun σ H13 => ∃ fr cp pt2, σ = [some (.ref a), some (.int (0 + (i : Int))), some (.ref l), some (.int (0 + (j : Int))), some (.ref p1), some (.ref p2), some (.ref sa), some (.ref sb), some (.str (T (tSv hs))), some (.str (T (tSt es))), o10, some (.ref fr), some (.ref cp), o13, o14, o15, o16, o17] ∧ Same H12 H13 ∧ H12 fr = none ∧ (∀ b ∈ pt2.all, H12 b = none) ∧ SvAt P w K H13 fr (hs.map srt) ∧ SiteAt K H13 cp (SS.nil.doAll es) pt2 ∧ fr ∉ pt2.all ∧ fr ≠ cp) (fun R r => ?_) ?_
        · simp only [tSl, tPart, tNoPart, tCKw, tVals, gStar, gCons, gNil, StX.tStar, tFmtS, tFmtI, tM0, tJs, tM1, rNewStrs, tMatch, setAll, lit_to, lit_page, lit_section, lit_gone, lit_exact, lit_open, tSeq, tAsg, tIfS, tRet, tRetN, tDrop, tNext, tNever, tOr, tAnd, tNot, tB, tTest, tCB, tCons, tVar, tC, tNil, tOp, tUn, tIf, tAndV, tOrV, tNotV, tChain, tTup, tLst, tCallR, tMethN, tMakeN, tPropN, tYes, gName, cx_K, cx_P, cx_w, rI0, rI, rEq, rNe, List.getElem?_cons_zero, List.getElem?_cons_succ, List.set_cons_zero, List.set_cons_succ, Option.some.injEq, exists_eq_left', exists_eq_left, V.bl.injEq, V.int.injEq, V.str.injEq, V.ref.injEq, List.cons.injEq, and_true, true_and, exists_and_left, and_assoc, List.append_nil, tPar]
          refine ⟨_, rfl, hs, rfl, DP.ok, fun fr H13 s13 hfr sv => ⟨_, rfl, es, rfl, DP.ca, fun cp pt2 H14 s14 hcp hpt st2 => ?_⟩⟩
          obtain ⟨_, _, _, _, efr, _⟩ := id sv
          exact r _ _ ⟨fr, cp, pt2, rfl, s13.trans s14, hfr, fun b hb => s13.free (hpt b hb), sv.mono s14, st2, (fun hb => by have := hpt _ hb; rw [efr] at this; cases this), fun z => by rw [← z, efr] at hcp; cases hcp⟩
        rintro _ H13 ⟨fr, cp, pt2, rfl, s13, hfr, hpt2, Sv13, St13, nfr, nfc⟩
        refine sif_nx (fun R r => ?_) fun H14 s14' => ?_
        · simp only [tSl, tPart, tNoPart, tCKw, tVals, gStar, gCons, gNil, StX.tStar, tFmtS, tFmtI, tM0, tJs, tM1, rNewStrs, tMatch, setAll, lit_to, lit_page, lit_section, lit_gone, lit_exact, lit_open, tSeq, tAsg, tIfS, tRet, tRetN, tDrop, tNext, tNever, tOr, tAnd, tNot, tB, tTest, tCB, tCons, tVar, tC, tNil, tOp, tUn, tIf, tAndV, tOrV, tNotV, tChain, tTup, tLst, tCallR, tMethN, tMakeN, tPropN, tYes, gName, cx_K, cx_P, cx_w, rI0, rI, rEq, rNe, List.getElem?_cons_zero, List.getElem?_cons_succ, List.set_cons_zero, List.set_cons_succ, Option.some.injEq, exists_eq_left', exists_eq_left, V.bl.injEq, V.int.injEq, V.str.injEq, V.ref.injEq, List.cons.injEq, and_true, true_and, exists_and_left, and_assoc, List.append_nil]
          have okE : ∀ x ∈ es, OkEv x := by
            have := DP.ca.last.okE
            rw [hev] at this
            exact this
          have Sv13' := Sv12.mono s13
          have St13' := St12.mono s13
          refine ⟨dIns_sv Sv13 Sv13' (srt_pair hs) (fun x hx => by obtain ⟨y, hy, rfl⟩ := List.mem_map.mp hx; exact (DP.ok.ok y hy).sort), fun Ha sA => ⟨true, rfl, iteF ?_⟩⟩
          have sA : Same H13 Ha := sA
          refine ⟨dIns_st (St13.mono sA) (St13'.mono sA) rfl (by rw [hev]; exact okE), fun Hb sB => ⟨true, rfl, iteF ?_⟩⟩
          have sB : Same Ha Hb := sB
          have StB := (St13.mono sA).mono sB
          have StB' := (St13'.mono sA).mono sB
          obtain ⟨dx, ecp⟩ := id StB.ins
          obtain ⟨dx', esb⟩ := id StB'.ins
          have shc := shaped_cls (cl_all es SS.nil DP.ca (fun _ z => nomatch z))
          have she := shaped_evs okE
          refine ⟨dx, _, ecp, rfl, _, rfl, cp, _, pt2, rfl, StB, DP.ca.last.l3, fun q1 Hc sC dq1 => ⟨dx', _, sC _ _ esb, rfl, _, rfl, sb, _, pt, rfl, StB'.mono sC, DP.ca.last.l3, fun q2 Hd sD dq2 => ⟨_, _, dp_mono sD dq1, dq2, shc, shc, false, ?_, iteF ?_⟩⟩⟩
          · rw [SeqAt.eqv_refl _ (SeqAt.canLay_of_shaped shc)]
            rfl
          have sE := (sB.trans sC).trans sD
          have DD := (((D12.same s13).same sA).same sE)
          refine ⟨dx, _, sD _ _ (sC _ _ ecp), rfl, _, rfl, cp, _, pt2, rfl, (StB.mono sC).mono sD, fun q3 vs He sF e3 hv3 => ?_⟩
          obtain ⟨ys, ep2, ev⟩ := (DD.same sF).evs
          rw [hev] at hv3
          refine ⟨.list (es.map dEv), .list (es.map dEv), .lst (SqL.of e3) (evs_dp hv3), .lst (SqL.of ep2) (evs_dp ev), she, she, false, ?_, r _ ((sA.trans sE).trans sF)⟩
          rw [SeqAt.eqv_refl _ (SeqAt.canLay_of_shaped she)]
          rfl
        have s14 := s13.trans s14'
        have Sv14 := Sv13.mono s14'
        have St14 := St13.mono s14'
        refine seq_cut (Src := fun σ H15 => σ = [some (.ref a), some (.int (0 + (i : Int))), some (.ref l), some (.int (0 + (j : Int))), some (.ref p1), some (.ref p2), some (.ref sa), some (.ref sb), some (.str (T (tSv hs))), some (.str (T (tSt es))), o10, some (.ref fr), some (.ref cp), o13, o14, o15, o16, o17] ∧ Same H12 H15 ∧ SvX P w K H14 H15 fr (hs.map srt ++ [(1000, [])]) ∧ SiteAt K H15 cp (SS.nil.doAll es) pt2) (fun R r => ?_) ?_
        · simp only [tSl, tPart, tNoPart, tCKw, tVals, gStar, gCons, gNil, StX.tStar, tFmtS, tFmtI, tM0, tJs, tM1, rNewStrs, tMatch, setAll, lit_to, lit_page, lit_section, lit_gone, lit_exact, lit_open, tSeq, tAsg, tIfS, tRet, tRetN, tDrop, tNext, tNever, tOr, tAnd, tNot, tB, tTest, tCB, tCons, tVar, tC, tNil, tOp, tUn, tIf, tAndV, tOrV, tNotV, tChain, tTup, tLst, tCallR, tMethN, tMakeN, tPropN, tYes, gName, cx_K, cx_P, cx_w, rI0, rI, rEq, rNe, List.getElem?_cons_zero, List.getElem?_cons_succ, List.set_cons_zero, List.set_cons_succ, Option.some.injEq, exists_eq_left', exists_eq_left, V.bl.injEq, V.int.injEq, V.str.injEq, V.ref.injEq, List.cons.injEq, and_true, true_and, exists_and_left, and_assoc, List.append_nil]
          obtain ⟨dxf, _, _, _, efr, _⟩ := id Sv14
          refine ⟨dxf, _, efr, rfl, fun x dx hx hdx hne => ?_⟩
          have sT := ((Same.refl H14).nw (o := .own x) hdx).nw (o := .ins a_Table dx []) ((upd_ne hne.symm).trans hx)
          refine ⟨_, rfl, x, dx, 353, [], [], rfl, rfl, upd_same, .inr (L.mt _), .nil, ⟨(fun _ z => nomatch z), List.nodup_nil, Nat.zero_le _⟩, fun dd Ha sbA eA hdA => ⟨rfl, ?_⟩⟩
          have sA : Same H14 Ha := SameB.old (H1 := upd (upd H14 dx (.own x)) x (.ins a_Table dx [])) sT hx sbA
          refine ⟨_, _, _, rfl, fr, hs.map srt, 1000, [], rfl, rfl, Sv14.mono sA, ⟨x, dx, dd, rfl, eA, hdA⟩, by decide, ?_, ?_, fun Hb sbB svx => r _ _ ⟨rfl, SameB.old (s14.trans sA) hfr sbB, svx.old sA, (St14.mono sA).off sbB nfr nfc (sbB.kt (sA _ _ efr) trivial)⟩⟩
          · intro h hh
            obtain ⟨y, hy, rfl⟩ := List.mem_map.mp hh
            have := DP.hd y hy
            show y.1 < 1000
            omega
          · rw [List.length_map]
            have := DP.hl
            omega
        rintro _ H15 ⟨rfl, s15, Sv15, St15⟩
        refine seq_cut (Src := fun σ H16 => σ = [some (.ref a), some (.int (0 + (i : Int))), some (.ref l), some (.int (0 + (j : Int))), some (.ref p1), some (.ref p2), some (.ref sa), some (.ref sb), some (.str (T (tSv hs))), some (.str (T (tSt es))), o10, some (.ref fr), some (.ref cp), o13, o14, o15, o16, o17] ∧ Same H12 H16 ∧ SvAt P w K H16 fr (hs.map srt ++ [(1000, [])]) ∧ ∃ pt3, SiteAt K H16 cp (SS.nil.doAll (es ++ [evLast])) pt3) (fun R r => ?_) ?_
        · simp only [tSl, tPart, tNoPart, tCKw, tVals, gStar, gCons, gNil, StX.tStar, tFmtS, tFmtI, tM0, tJs, tM1, rNewStrs, tMatch, setAll, lit_to, lit_page, lit_section, lit_gone, lit_exact, lit_open, tSeq, tAsg, tIfS, tRet, tRetN, tDrop, tNext, tNever, tOr, tAnd, tNot, tB, tTest, tCB, tCons, tVar, tC, tNil, tOp, tUn, tIf, tAndV, tOrV, tNotV, tChain, tTup, tLst, tCallR, tMethN, tMakeN, tPropN, tYes, gName, cx_K, cx_P, cx_w, rI0, rI, rEq, rNe, List.getElem?_cons_zero, List.getElem?_cons_succ, List.set_cons_zero, List.set_cons_succ, Option.some.injEq, exists_eq_left', exists_eq_left, V.bl.injEq, V.int.injEq, V.str.injEq, V.ref.injEq, List.cons.injEq, and_true, true_and, exists_and_left, and_assoc, List.append_nil]
          obtain ⟨dxc, ecp⟩ := id St15.ins
          rw [lz_last, lz_q]
          refine ⟨dxc, _, ecp, rfl, szl rfl, fun t ht => ?_⟩
          have sT := (Same.refl H15).nw (o := .tup [vW [113], vW [113]]) ht
          have et := upd_same (H := H15) (a := t) (o := .tup [vW [113], vW [113]])
          generalize upd H15 t (.tup [vW [113], vW [113]]) = Ha at *
          refine ⟨_, _, _, _, rfl, cp, _, pt2, 1000, wLast, aQQ, rfl, rfl, rfl, ⟨t, rfl, .inl (.inl et)⟩, St15.mono sT, DP.ca.last, (can_last DP.ed DP.ca DP.el).1, fun Hb pt3 kB uB SB => r _ _ ⟨rfl, KeepF.old (s15.trans sT) hpt2 kB, (Sv15.mono sT).kf St14 (St15.mono sT) kB, pt3, ?_⟩⟩
          rw [doAll_snoc]
          exact SB
        rintro _ H16 ⟨rfl, s16, Sv16, pt3, St16⟩
        clear Sv13 Sv14 Sv15 St13 St14 St15 s13 s14 s14' s15
        have okH := hs_last DP.ok DP.hl DP.hd
        have caL := (can_last DP.ed DP.ca DP.el).2
        have okE : ∀ x ∈ es, OkEv x := by
          have := DP.ca.last.okE
          rw [hev] at this
          exact this
        have hevL : (SS.nil.doAll (es ++ [evLast])).ev = es ++ [evLast] := doAll_ev (es ++ [evLast]) SS.nil
        refine sasg_cut (Src := fun v H17 => v = .str (T (tSv (hs.map srt ++ [(1000, [])]))) ∧ Same H16 H17) (fun R r => ?_) ?_
        · by_cases h0 : hs = []
          · refine ife_no (fun R r => ?_) fun H17 s17 => ?_
            · simp only [tSl, tPart, tNoPart, tCKw, tVals, gStar, gCons, gNil, StX.tStar, tFmtS, tFmtI, tM0, tJs, tM1, rNewStrs, tMatch, setAll, lit_to, lit_page, lit_section, lit_gone, lit_exact, lit_open, tSeq, tAsg, tIfS, tRet, tRetN, tDrop, tNext, tNever, tOr, tAnd, tNot, tB, tTest, tCB, tCons, tVar, tC, tNil, tOp, tUn, tIf, tAndV, tOrV, tNotV, tChain, tTup, tLst, tCallR, tMethN, tMakeN, tPropN, tYes, gName, cx_K, cx_P, cx_w, rI0, rI, rEq, rNe, List.getElem?_cons_zero, List.getElem?_cons_succ, List.set_cons_zero, List.set_cons_succ, Option.some.injEq, exists_eq_left', exists_eq_left, V.bl.injEq, V.int.injEq, V.str.injEq, V.ref.injEq, List.cons.injEq, and_true, true_and, exists_and_left, and_assoc, List.append_nil]
              refine ⟨rfl, ?_⟩
              rw [lz_nil, decide_eq_true (show T (tSv hs) = T [] by rw [h0]; rfl)]
              exact r _ (Same.refl _)
            · simp only [tSl, tPart, tNoPart, tCKw, tVals, gStar, gCons, gNil, StX.tStar, tFmtS, tFmtI, tM0, tJs, tM1, rNewStrs, tMatch, setAll, lit_to, lit_page, lit_section, lit_gone, lit_exact, lit_open, tSeq, tAsg, tIfS, tRet, tRetN, tDrop, tNext, tNever, tOr, tAnd, tNot, tB, tTest, tCB, tCons, tVar, tC, tNil, tOp, tUn, tIf, tAndV, tOrV, tNotV, tChain, tTup, tLst, tCallR, tMethN, tMakeN, tPropN, tYes, gName, cx_K, cx_P, cx_w, rI0, rI, rEq, rNe, List.getElem?_cons_zero, List.getElem?_cons_succ, List.set_cons_zero, List.set_cons_succ, Option.some.injEq, exists_eq_left', exists_eq_left, V.bl.injEq, V.int.injEq, V.str.injEq, V.ref.injEq, List.cons.injEq, and_true, true_and, exists_and_left, and_assoc, List.append_nil]
              refine r _ _ ⟨?_, s17⟩
              rw [lz_day, h0, tSv_last0]
          · refine ife_yes (fun R r => ?_) fun H17 s17 => ?_
            · simp only [tSl, tPart, tNoPart, tCKw, tVals, gStar, gCons, gNil, StX.tStar, tFmtS, tFmtI, tM0, tJs, tM1, rNewStrs, tMatch, setAll, lit_to, lit_page, lit_section, lit_gone, lit_exact, lit_open, tSeq, tAsg, tIfS, tRet, tRetN, tDrop, tNext, tNever, tOr, tAnd, tNot, tB, tTest, tCB, tCons, tVar, tC, tNil, tOp, tUn, tIf, tAndV, tOrV, tNotV, tChain, tTup, tLst, tCallR, tMethN, tMakeN, tPropN, tYes, gName, cx_K, cx_P, cx_w, rI0, rI, rEq, rNe, List.getElem?_cons_zero, List.getElem?_cons_succ, List.set_cons_zero, List.set_cons_succ, Option.some.injEq, exists_eq_left', exists_eq_left, V.bl.injEq, V.int.injEq, V.str.injEq, V.ref.injEq, List.cons.injEq, and_true, true_and, exists_and_left, and_assoc, List.append_nil]
              refine ⟨rfl, ?_⟩
              rw [lz_nil, decide_eq_false (fun z => tSv_ne h0 DP.ok (T_inj z))]
              exact r _ (Same.refl _)
            · simp only [tSl, tPart, tNoPart, tCKw, tVals, gStar, gCons, gNil, StX.tStar, tFmtS, tFmtI, tM0, tJs, tM1, rNewStrs, tMatch, setAll, lit_to, lit_page, lit_section, lit_gone, lit_exact, lit_open, tSeq, tAsg, tIfS, tRet, tRetN, tDrop, tNext, tNever, tOr, tAnd, tNot, tB, tTest, tCB, tCons, tVar, tC, tNil, tOp, tUn, tIf, tAndV, tOrV, tNotV, tChain, tTup, tLst, tCallR, tMethN, tMakeN, tPropN, tYes, gName, cx_K, cx_P, cx_w, rI0, rI, rEq, rNe, List.getElem?_cons_zero, List.getElem?_cons_succ, List.set_cons_zero, List.set_cons_succ, Option.some.injEq, exists_eq_left', exists_eq_left, V.bl.injEq, V.int.injEq, V.str.injEq, V.ref.injEq, List.cons.injEq, and_true, true_and, exists_and_left, and_assoc, List.append_nil]
              have hL := tSv_len DP.ok (by have := DP.hl; omega)
              refine ⟨?_, r _ _ ⟨?_, s17⟩⟩
              · rw [lz_dayN, T_len, T_len]
                exact Nat.le_trans (Nat.add_le_add hL (show _ ≤ 1000 by decide +kernel)) (by decide)
              · rw [lz_dayN, T_cat, tSv_last h0]
        rintro _ H17 ⟨rfl, s17⟩
        have Sv17 := Sv16.mono s17
        have St17 := St16.mono s17
        have s17 := s16.trans s17
        clear Sv16 St16 s16
        refine sif_nx (fun R r => ?_) fun H18 s18 => ?_
        · simp only [tSl, tPart, tNoPart, tCKw, tVals, gStar, gCons, gNil, StX.tStar, tFmtS, tFmtI, tM0, tJs, tM1, rNewStrs, tMatch, setAll, lit_to, lit_page, lit_section, lit_gone, lit_exact, lit_open, tSeq, tAsg, tIfS, tRet, tRetN, tDrop, tNext, tNever, tOr, tAnd, tNot, tB, tTest, tCB, tCons, tVar, tC, tNil, tOp, tUn, tIf, tAndV, tOrV, tNotV, tChain, tTup, tLst, tCallR, tMethN, tMakeN, tPropN, tYes, gName, cx_K, cx_P, cx_w, rI0, rI, rEq, rNe, List.getElem?_cons_zero, List.getElem?_cons_succ, List.set_cons_zero, List.set_cons_succ, Option.some.injEq, exists_eq_left', exists_eq_left, V.bl.injEq, V.int.injEq, V.str.injEq, V.ref.injEq, List.cons.injEq, and_true, true_and, exists_and_left, and_assoc, List.append_nil]
          refine ⟨_, rfl, fr, _, rfl, Sv17, okH, fun Ha sA => ⟨rfl, ?_⟩⟩
          rw [decide_eq_true rfl]
          refine iteF ⟨_, rfl, sa, hs, rfl, (Sv12.mono s17).mono sA, DP.ok, fun Hb sB => ⟨rfl, ?_⟩⟩
          rw [decide_eq_true rfl]
          exact r _ (sA.trans sB)
        have St18 := St17.mono s18
        have s18 := s17.trans s18
        clear Sv17 St17 s17
        refine sasg_cut (Src := fun v H19 => v = .str (T (tSt (es ++ [evLast]))) ∧ Same H18 H19) (fun R r => ?_) ?_
        · by_cases h0 : es = []
          · refine ife_no (fun R r => ?_) fun H19 s19 => ?_
            · simp only [tSl, tPart, tNoPart, tCKw, tVals, gStar, gCons, gNil, StX.tStar, tFmtS, tFmtI, tM0, tJs, tM1, rNewStrs, tMatch, setAll, lit_to, lit_page, lit_section, lit_gone, lit_exact, lit_open, tSeq, tAsg, tIfS, tRet, tRetN, tDrop, tNext, tNever, tOr, tAnd, tNot, tB, tTest, tCB, tCons, tVar, tC, tNil, tOp, tUn, tIf, tAndV, tOrV, tNotV, tChain, tTup, tLst, tCallR, tMethN, tMakeN, tPropN, tYes, gName, cx_K, cx_P, cx_w, rI0, rI, rEq, rNe, List.getElem?_cons_zero, List.getElem?_cons_succ, List.set_cons_zero, List.set_cons_succ, Option.some.injEq, exists_eq_left', exists_eq_left, V.bl.injEq, V.int.injEq, V.str.injEq, V.ref.injEq, List.cons.injEq, and_true, true_and, exists_and_left, and_assoc, List.append_nil]
              refine ⟨rfl, ?_⟩
              rw [lz_nil, decide_eq_true (show T (tSt es) = T [] by rw [h0]; rfl)]
              exact r _ (Same.refl _)
            · simp only [tSl, tPart, tNoPart, tCKw, tVals, gStar, gCons, gNil, StX.tStar, tFmtS, tFmtI, tM0, tJs, tM1, rNewStrs, tMatch, setAll, lit_to, lit_page, lit_section, lit_gone, lit_exact, lit_open, tSeq, tAsg, tIfS, tRet, tRetN, tDrop, tNext, tNever, tOr, tAnd, tNot, tB, tTest, tCB, tCons, tVar, tC, tNil, tOp, tUn, tIf, tAndV, tOrV, tNotV, tChain, tTup, tLst, tCallR, tMethN, tMakeN, tPropN, tYes, gName, cx_K, cx_P, cx_w, rI0, rI, rEq, rNe, List.getElem?_cons_zero, List.getElem?_cons_succ, List.set_cons_zero, List.set_cons_succ, Option.some.injEq, exists_eq_left', exists_eq_left, V.bl.injEq, V.int.injEq, V.str.injEq, V.ref.injEq, List.cons.injEq, and_true, true_and, exists_and_left, and_assoc, List.append_nil]
              refine r _ _ ⟨?_, s19⟩
              rw [lz_ev, h0, tSt_last0]
          · refine ife_yes (fun R r => ?_) fun H19 s19 => ?_
            · simp only [tSl, tPart, tNoPart, tCKw, tVals, gStar, gCons, gNil, StX.tStar, tFmtS, tFmtI, tM0, tJs, tM1, rNewStrs, tMatch, setAll, lit_to, lit_page, lit_section, lit_gone, lit_exact, lit_open, tSeq, tAsg, tIfS, tRet, tRetN, tDrop, tNext, tNever, tOr, tAnd, tNot, tB, tTest, tCB, tCons, tVar, tC, tNil, tOp, tUn, tIf, tAndV, tOrV, tNotV, tChain, tTup, tLst, tCallR, tMethN, tMakeN, tPropN, tYes, gName, cx_K, cx_P, cx_w, rI0, rI, rEq, rNe, List.getElem?_cons_zero, List.getElem?_cons_succ, List.set_cons_zero, List.set_cons_succ, Option.some.injEq, exists_eq_left', exists_eq_left, V.bl.injEq, V.int.injEq, V.str.injEq, V.ref.injEq, List.cons.injEq, and_true, true_and, exists_and_left, and_assoc, List.append_nil]
              refine ⟨rfl, ?_⟩
              rw [lz_nil, decide_eq_false (fun z => tSt_ne h0 (T_inj z))]
              exact r _ (Same.refl _)
            · simp only [tSl, tPart, tNoPart, tCKw, tVals, gStar, gCons, gNil, StX.tStar, tFmtS, tFmtI, tM0, tJs, tM1, rNewStrs, tMatch, setAll, lit_to, lit_page, lit_section, lit_gone, lit_exact, lit_open, tSeq, tAsg, tIfS, tRet, tRetN, tDrop, tNext, tNever, tOr, tAnd, tNot, tB, tTest, tCB, tCons, tVar, tC, tNil, tOp, tUn, tIf, tAndV, tOrV, tNotV, tChain, tTup, tLst, tCallR, tMethN, tMakeN, tPropN, tYes, gName, cx_K, cx_P, cx_w, rI0, rI, rEq, rNe, List.getElem?_cons_zero, List.getElem?_cons_succ, List.set_cons_zero, List.set_cons_succ, Option.some.injEq, exists_eq_left', exists_eq_left, V.bl.injEq, V.int.injEq, V.str.injEq, V.ref.injEq, List.cons.injEq, and_true, true_and, exists_and_left, and_assoc, List.append_nil]
              have hL := tSt_len okE (by have := DP.el; omega)
              refine ⟨?_, r _ _ ⟨?_, s19⟩⟩
              · rw [lz_evN, T_len, T_len]
                exact Nat.le_trans (Nat.add_le_add hL (show _ ≤ 1000 by decide +kernel)) (by decide)
              · rw [lz_evN, T_cat, tSt_last h0]
        rintro _ H19 ⟨rfl, s19⟩
        have St19 := St18.mono s19
        have s19 := s18.trans s19
        refine if_no (fun R r => ?_) fun H20 s20 => ?_
        · simp only [tSl, tPart, tNoPart, tCKw, tVals, gStar, gCons, gNil, StX.tStar, tFmtS, tFmtI, tM0, tJs, tM1, rNewStrs, tMatch, setAll, lit_to, lit_page, lit_section, lit_gone, lit_exact, lit_open, tSeq, tAsg, tIfS, tRet, tRetN, tDrop, tNext, tNever, tOr, tAnd, tNot, tB, tTest, tCB, tCons, tVar, tC, tNil, tOp, tUn, tIf, tAndV, tOrV, tNotV, tChain, tTup, tLst, tCallR, tMethN, tMakeN, tPropN, tYes, gName, cx_K, cx_P, cx_w, rI0, rI, rEq, rNe, List.getElem?_cons_zero, List.getElem?_cons_succ, List.set_cons_zero, List.set_cons_succ, Option.some.injEq, exists_eq_left', exists_eq_left, V.bl.injEq, V.int.injEq, V.str.injEq, V.ref.injEq, List.cons.injEq, and_true, true_and, exists_and_left, and_assoc, List.append_nil]
          refine ⟨_, rfl, cp, _, pt3, rfl, St19, caL.last, fun Ha sA => ⟨rfl, ?_⟩⟩
          rw [hevL, decide_eq_true rfl]
          refine iteF ⟨_, rfl, sb, _, pt, rfl, (St12.mono s19).mono sA, DP.ca.last, fun Hb sB => ⟨rfl, ?_⟩⟩
          rw [hev, decide_eq_true rfl]
          exact r _ (sA.trans sB)
        have D20 := D12.same (s19.trans s20)
        exact ⟨⟨_, _, _, _, _, _, _, _, _, _, _, _, _, _, _, rfl⟩, e12.trans (ExtN.of (s19.trans s20)), D20.wl, D20.tb⟩
      · rintro σ H7 ⟨⟨o3, o4, o5, o6, o7, o8, o9, o10, o11, o12, o13, o14, o15, o16, o17, rfl⟩, e7, hw7, t7⟩
        exact ⟨⟨_, _, _, _, _, _, _, _, _, _, _, _, _, _, _, _, _, rfl⟩, e4.trans e7, t7⟩
    · rintro σ H4 ⟨⟨o1, o2, o3, o4, o5, o6, o7, o8, o9, o10, o11, o12, o13, o14, o15, o16, o17, rfl⟩, e4, t4⟩
      exact rr _ _ ⟨⟨_, _, _, _, _, _, _, _, _, _, _, _, _, _, _, _, _, rfl⟩, t4⟩
  rintro _ H1 ⟨⟨o1, o2, o3, o4, o5, o6, o7, o8, o9, o10, o11, o12, o13, o14, o15, o16, o17, rfl⟩, t1⟩
  refine sasg_cut (Src := fun v H2 => ∃ pw, v = .ref pw ∧ H2 pw = some (.lst (ownW.map vW)) ∧ TabS H2 tP lamQ) (fun R r => ?_) ?_
  · simp only [tSl, tPart, tNoPart, tCKw, tVals, gStar, gCons, gNil, StX.tStar, tFmtS, tFmtI, tM0, tJs, tM1, rNewStrs, tMatch, setAll, lit_to, lit_page, lit_section, lit_gone, lit_exact, lit_open, tSeq, tAsg, tIfS, tRet, tRetN, tDrop, tNext, tNever, tOr, tAnd, tNot, tB, tTest, tCB, tCons, tVar, tC, tNil, tOp, tUn, tIf, tAndV, tOrV, tNotV, tChain, tTup, tLst, tCallR, tMethN, tMakeN, tPropN, tYes, gName, cx_K, cx_P, cx_w, rI0, rI, rEq, rNe, List.getElem?_cons_zero, List.getElem?_cons_succ, List.set_cons_zero, List.set_cons_succ, Option.some.injEq, exists_eq_left', exists_eq_left, V.bl.injEq, V.int.injEq, V.str.injEq, V.ref.injEq, List.cons.injEq, and_true, true_and, exists_and_left, and_assoc, List.append_nil]
    refine ⟨szl rfl, fun pw hp => ?_⟩
    have s2 := fun o => (Same.refl H1).nw (o := o) hp
    refine r _ _ ⟨pw, rfl, ?_, t1.ext (s2 _)⟩
    rw [upd_same, lv_for, lit_at, lit_into, lv_day, lit_put, lv_monday, lit_take]
    rfl
  rintro _ H2 ⟨pw, rfl, ew, t2⟩
  refine sasg_cut (Src := fun v H3 => ∃ p1 t q ys, v = .ref p1 ∧ H3 pw = some (.lst (ownW.map vW)) ∧ TabS H3 tP lamQ ∧ H3 p1 = some (.lst [.ref t]) ∧ SqT K H3 t [.int 5, .ref q] ∧ H3 q = some (.lst ys) ∧ RusAt K H3 ys (ownW.map ownR) ∧ q ≠ p1 ∧ pw ≠ p1) (fun R r => ?_) ?_
  · simp only [tSl, tPart, tNoPart, tCKw, tVals, gStar, gCons, gNil, StX.tStar, tFmtS, tFmtI, tM0, tJs, tM1, rNewStrs, tMatch, setAll, lit_to, lit_page, lit_section, lit_gone, lit_exact, lit_open, tSeq, tAsg, tIfS, tRet, tRetN, tDrop, tNext, tNever, tOr, tAnd, tNot, tB, tTest, tCB, tCons, tVar, tC, tNil, tOp, tUn, tIf, tAndV, tOrV, tNotV, tChain, tTup, tLst, tCallR, tMethN, tMakeN, tPropN, tYes, gName, cx_K, cx_P, cx_w, rI0, rI, rEq, rNe, List.getElem?_cons_zero, List.getElem?_cons_succ, List.set_cons_zero, List.set_cons_succ, Option.some.injEq, exists_eq_left', exists_eq_left, V.bl.injEq, V.int.injEq, V.str.injEq, V.ref.injEq, List.cons.injEq, and_true, true_and, exists_and_left, and_assoc, List.append_nil]
    refine tLc_w (walk_list (a := pw) (xs := ownW.map vW)) (fun R r => ⟨_, rfl, pw, rfl, ⟨_, SqL.of ew⟩, r⟩) (fun D i H' => Same H2 H' ∧ ∃ acc, H' D = some (.lst acc) ∧ RusAt K H' acc ((ownW.take i).map ownR)) (fun D hD => ⟨(Same.refl _).nw hD, [], upd_same, .nil⟩) (fun D i H' _ _ z => SqL.of (z.1 _ _ ew)) ?_ ?_
    · rintro D i x Ha Hb hD hi ⟨sa, acc, eD, hacc⟩ ⟨rfl, hx⟩
      rw [List.getElem?_map] at hx
      obtain ⟨o, ho, rfl⟩ := Option.map_eq_some_iff.mp hx
      refine ⟨rfl, ?_⟩
      simp only [tSl, tPart, tNoPart, tCKw, tVals, gStar, gCons, gNil, StX.tStar, tFmtS, tFmtI, tM0, tJs, tM1, rNewStrs, tMatch, setAll, lit_to, lit_page, lit_section, lit_gone, lit_exact, lit_open, tSeq, tAsg, tIfS, tRet, tRetN, tDrop, tNext, tNever, tOr, tAnd, tNot, tB, tTest, tCB, tCons, tVar, tC, tNil, tOp, tUn, tIf, tAndV, tOrV, tNotV, tChain, tTup, tLst, tCallR, tMethN, tMakeN, tPropN, tYes, gName, cx_K, cx_P, cx_w, rI0, rI, rEq, rNe, List.getElem?_cons_zero, List.getElem?_cons_succ, List.set_cons_zero, List.set_cons_succ, Option.some.injEq, exists_eq_left', exists_eq_left, V.bl.injEq, V.int.injEq, V.str.injEq, V.ref.injEq, List.cons.injEq, and_true, true_and, exists_and_left, and_assoc, List.append_nil, wipe, List.map_cons, List.map_nil]
      rw [lv_day]
      refine ⟨szl rfl, fun q1 h1 => ?_⟩
      obtain ⟨Hc, ec, sc, pc⟩ := nw_step (.tup [vW o]) h1
      rw [ec]
      refine ⟨szl rfl, fun q2 h2 => ?_⟩
      obtain ⟨Hd, ed, sd, pd⟩ := nw_step (.tup [vW sDay, vW o]) h2
      rw [ed]
      refine ⟨szl rfl, fun q3 h3 => ?_⟩
      obtain ⟨He, ee, se, pe⟩ := nw_step (.tup [vW sTo, .ref q2, .int 3]) h3
      rw [ee]
      refine ⟨szl rfl, fun q4 h4 => ?_⟩
      obtain ⟨Hf, ef, sf, pf⟩ := nw_step (.tup [vW sOpen, .ref q1, .ref q3]) h4
      rw [ef]
      have sT := ((sc.trans sd).trans se).trans sf
      have eD := sT _ _ eD
      have hacc := hacc.kt sT.kt
      have hl := Paired.length hacc
      refine ⟨acc, eD, ?_, (sa.trans sT).mt hD, acc ++ [.ref q4], upd_same, ?_⟩
      · rw [hl, List.length_map, List.length_take]
        exact Nat.lt_of_le_of_lt (Nat.min_le_right _ _) (show ownW.length < sizeLine by decide)
      · rw [List.take_add_one, ho, List.map_append]
        exact ru_snoc eD hacc ⟨q4, .ref q1, .ref q3, rfl, .inl (.inl pf), ⟨q1, rfl, .inl (.inl (sf _ _ (se _ _ (sd _ _ pc))))⟩, ⟨q3, .ref q2, rfl, .inl (.inl (sf _ _ pe)), ⟨q2, rfl, .inl (.inl (sf _ _ (se _ _ pd)))⟩⟩⟩
    · rintro D Ha hD ⟨sa, acc, eD, hacc⟩
      rw [List.length_map, List.take_length] at hacc
      refine ⟨szl rfl, fun q1 h1 => ?_⟩
      obtain ⟨Hc, ec, sc, pc⟩ := nw_step (.tup [V.int 5, .ref D]) h1
      rw [ec]
      refine ⟨szl rfl, fun q2 h2 => ?_⟩
      obtain ⟨Hd, ed, sd, pd⟩ := nw_step (.lst [.ref q1]) h2
      rw [ed]
      have sT := sc.trans sd
      have nq : ∀ x o, Ha x = some o → x ≠ q2 := fun x o e => ne_of_none (sc _ _ e) h2
      exact r _ _ ⟨q2, q1, D, acc, rfl, sT _ _ (sa _ _ ew), (t2.ext sa).ext sT, pd, .inl (.inl (sd _ _ pc)), sT _ _ eD, hacc.kt sT.kt, nq _ _ eD, nq _ _ (sa _ _ ew)⟩
  rintro _ H3 ⟨p1, t, q, ys, rfl, ew, t3, e1, et, eq, hr0, n1, nw⟩
  refine seq_cut (Src := fun σ H4 => ∃ xs, σ = [some (.ref a), o1, o2, o3, some (.ref p1), o5, o6, o7, o8, o9, o10, o11, o12, o13, some (.ref pw), o15, o16, o17] ∧ H4 pw = some (.lst (ownW.map vW)) ∧ TabS H4 tP lamQ ∧ H4 p1 = some (.lst xs) ∧ LnsAt K H4 p1 xs ownHs) (fun R r => ?_) ?_
  · simp only [tSl, tPart, tNoPart, tCKw, tVals, gStar, gCons, gNil, StX.tStar, tFmtS, tFmtI, tM0, tJs, tM1, rNewStrs, tMatch, setAll, lit_to, lit_page, lit_section, lit_gone, lit_exact, lit_open, tSeq, tAsg, tIfS, tRet, tRetN, tDrop, tNext, tNever, tOr, tAnd, tNot, tB, tTest, tCB, tCons, tVar, tC, tNil, tOp, tUn, tIf, tAndV, tOrV, tNotV, tChain, tTup, tLst, tCallR, tMethN, tMakeN, tPropN, tYes, gName, cx_K, cx_P, cx_w, rI0, rI, rEq, rNe, List.getElem?_cons_zero, List.getElem?_cons_succ, List.set_cons_zero, List.set_cons_succ, Option.some.injEq, exists_eq_left', exists_eq_left, V.bl.injEq, V.int.injEq, V.str.injEq, V.ref.injEq, List.cons.injEq, and_true, true_and, exists_and_left, and_assoc, List.append_nil, tBM, rAppend]
    refine ⟨tyL e1, szl rfl, fun q1 h1 => ?_⟩
    rw [lv_monday] at *
    obtain ⟨Hc, ec, sc, pc⟩ := nw_step (.tup [vW sMonday]) h1
    rw [ec]
    refine ⟨szl rfl, fun q2 h2 => ?_⟩
    obtain ⟨Hd, ed, sd, pd⟩ := nw_step (.tup [vW sGone]) h2
    rw [ed]
    refine ⟨szl rfl, fun q3 h3 => ?_⟩
    obtain ⟨He, ee, se, pe⟩ := nw_step (.tup [vW sExact, .ref q1, .ref q2]) h3
    rw [ee]
    refine ⟨szl rfl, fun q4 h4 => ?_⟩
    obtain ⟨Hf, ef, sf, pf⟩ := nw_step (.lst [.ref q3]) h4
    rw [ef]
    refine ⟨szl rfl, fun q5 h5 => ?_⟩
    obtain ⟨Hg, eg, sg, pg⟩ := nw_step (.tup [.int 9, .ref q4]) h5
    rw [eg]
    have sT := ((((sc.trans sd).trans se).trans sf).trans sg)
    have e1' := sT _ _ e1
    have n2 : q4 ≠ p1 := ((ne_of_none (((sc.trans sd).trans se) _ _ e1) h4)).symm
    have kt : KeepT Hg (upd Hg p1 (.lst ([.ref t] ++ [.ref q5]))) := (Same.refl Hg).kt.mut e1' trivial
    refine ⟨_, e1', show 1 < sizeLine by decide, r _ _ ⟨[.ref t, .ref q5], rfl, (upd_ne nw).trans (sT _ _ ew), ?_, upd_same, .cons ⟨t, q, ys, rfl, sqt_kt kt (sT.sqt et), (upd_ne n1).trans (sT _ _ eq), (hr0.kt sT.kt).kt kt, n1⟩ (.cons ⟨q5, q4, [.ref q3], rfl, sqt_kt kt (.inl (.inl pg)), (upd_ne n2).trans (sg _ _ pf), ?_, n2⟩ .nil)⟩⟩
    · exact TabS.sb (t3.ext sT) e1' trivial (fun _ z => nomatch z) (SameB.refl _ _).self
    · refine RusAt.kt (.cons ?_ .nil) kt
      exact ⟨q3, .ref q1, .ref q2, rfl, .inl (.inl (sg _ _ (sf _ _ pe))), ⟨q1, rfl, .inl (.inl (sg _ _ (sf _ _ (se _ _ (sd _ _ pc)))))⟩, ⟨q2, rfl, .inl (.inl (sg _ _ (sf _ _ (se _ _ pd))))⟩⟩
  rintro _ H4 ⟨xs, rfl, ew, t4, e1, ln⟩
  refine sasg_cut (Src := fun v H5 => ∃ ps, v = .ref ps ∧ Same H4 H5 ∧ H5 ps = some (.lst ownS)) (fun R r => ?_) ?_
  · simp only [tSl, tPart, tNoPart, tCKw, tVals, gStar, gCons, gNil, StX.tStar, tFmtS, tFmtI, tM0, tJs, tM1, rNewStrs, tMatch, setAll, lit_to, lit_page, lit_section, lit_gone, lit_exact, lit_open, tSeq, tAsg, tIfS, tRet, tRetN, tDrop, tNext, tNever, tOr, tAnd, tNot, tB, tTest, tCB, tCons, tVar, tC, tNil, tOp, tUn, tIf, tAndV, tOrV, tNotV, tChain, tTup, tLst, tCallR, tMethN, tMakeN, tPropN, tYes, gName, cx_K, cx_P, cx_w, rI0, rI, rEq, rNe, List.getElem?_cons_zero, List.getElem?_cons_succ, List.set_cons_zero, List.set_cons_succ, Option.some.injEq, exists_eq_left', exists_eq_left, V.bl.injEq, V.int.injEq, V.str.injEq, V.ref.injEq, List.cons.injEq, and_true, true_and, exists_and_left, and_assoc, List.append_nil, rRep]
    refine ⟨szl rfl, fun q1 h1 => ⟨_, upd_same, by decide, by decide, by decide, fun q2 h2 => ?_⟩⟩
    obtain ⟨Hc, ec, sc, pc⟩ := nw_step (.lst [vW sPage, vW sSection]) h1
    rw [ec] at h2 ⊢
    exact r _ _ ⟨q2, rfl, sc.trans ((Same.refl _).nw h2), upd_same⟩
  rintro _ H5 ⟨ps, rfl, s5, es5⟩
  have ew := s5 _ _ ew
  have t5 := t4.ext s5
  have e1 := s5 _ _ e1
  have ln := ln.mono s5
  refine sasg_cut (Src := fun v H6 => ∃ pe vs, v = .ref pe ∧ Same H5 H6 ∧ H6 pe = some (.lst vs) ∧ Paired (EvAt K H6) vs ownE0) (fun R r => ?_) ?_
  · skip
    refine tLc_cut (Src := fun J H6 => J = Itz K ps pw ∧ H5 = H6) (fun R r => ?_) ?_
    · simp only [tSl, tPart, tNoPart, tCKw, tVals, gStar, gCons, gNil, StX.tStar, tFmtS, tFmtI, tM0, tJs, tM1, rNewStrs, tMatch, setAll, lit_to, lit_page, lit_section, lit_gone, lit_exact, lit_open, tSeq, tAsg, tIfS, tRet, tRetN, tDrop, tNext, tNever, tOr, tAnd, tNot, tB, tTest, tCB, tCons, tVar, tC, tNil, tOp, tUn, tIf, tAndV, tOrV, tNotV, tChain, tTup, tLst, tCallR, tMethN, tMakeN, tPropN, tYes, gName, cx_K, cx_P, cx_w, rI0, rI, rEq, rNe, List.getElem?_cons_zero, List.getElem?_cons_succ, List.set_cons_zero, List.set_cons_succ, Option.some.injEq, exists_eq_left', exists_eq_left, V.bl.injEq, V.int.injEq, V.str.injEq, V.ref.injEq, List.cons.injEq, and_true, true_and, exists_and_left, and_assoc, List.append_nil, iZip]
      exact ⟨_, SqL.of es5, _, SqL.of ew, r _ _ ⟨rfl, rfl⟩⟩
    rintro J _ ⟨rfl, rfl⟩
    refine tLc_w (walk_zip (a := ps) (b := pw) (xs := ownS) (ys := ownW.map vW) (n := 11) (by decide)) (fun R r => r) (fun D i H' => Same H5 H' ∧ ∃ acc, H' D = some (.lst acc) ∧ Paired (EvAt K H') acc (ownE0.take i)) (fun D hD => ⟨(Same.refl _).nw hD, [], upd_same, .nil⟩) (fun D i H' _ _ z => ⟨SqL.of (z.1 _ _ es5), SqL.of (z.1 _ _ ew)⟩) ?_ ?_
    · rintro D i x Ha Hb hD hi ⟨sa, acc, eD, hacc⟩ ⟨T0, x1, x2, rfl, hT, rfl, hx1, hx2⟩
      have hx1 : ownS[i]? = some x1 := hx1
      have hx2 : (ownW.map vW)[i]? = some x2 := hx2
      rw [ownS_get (show i < 12 by omega)] at hx1
      cases hx1
      rw [List.getElem?_map] at hx2
      obtain ⟨o, ho, rfl⟩ := Option.map_eq_some_iff.mp hx2
      refine ⟨T0, [vW (sortN (i % 2 == 1)), vW o], rfl, .inl (.inl upd_same), rfl, _, _, rfl, _, _, rfl, rfl, rfl, ?_⟩
      obtain ⟨Hb, eb, sb', pb⟩ := nw_step (.tup [vW (sortN (i % 2 == 1)), vW o]) hT
      rw [eb]
      simp only [tSl, tPart, tNoPart, tCKw, tVals, gStar, gCons, gNil, StX.tStar, tFmtS, tFmtI, tM0, tJs, tM1, rNewStrs, tMatch, setAll, lit_to, lit_page, lit_section, lit_gone, lit_exact, lit_open, tSeq, tAsg, tIfS, tRet, tRetN, tDrop, tNext, tNever, tOr, tAnd, tNot, tB, tTest, tCB, tCons, tVar, tC, tNil, tOp, tUn, tIf, tAndV, tOrV, tNotV, tChain, tTup, tLst, tCallR, tMethN, tMakeN, tPropN, tYes, gName, cx_K, cx_P, cx_w, rI0, rI, rEq, rNe, List.getElem?_cons_zero, List.getElem?_cons_succ, List.set_cons_zero, List.set_cons_succ, Option.some.injEq, exists_eq_left', exists_eq_left, V.bl.injEq, V.int.injEq, V.str.injEq, V.ref.injEq, List.cons.injEq, and_true, true_and, exists_and_left, and_assoc, List.append_nil, wipe, List.map_cons, List.map_nil]
      rw [lit_put, lit_at]
      refine ⟨szl rfl, fun q1 h1 => ?_⟩
      obtain ⟨Hc, ec, sc, pc⟩ := nw_step (.tup [vW o, vW sAt]) h1
      rw [ec]
      refine ⟨szl rfl, fun q2 h2 => ?_⟩
      obtain ⟨Hd, ed, sd, pd⟩ := nw_step (.tup [.int 0, vW sPut, vW (sortN (i % 2 == 1)), vW o, .ref q1]) h2
      rw [ed]
      have sT := (sb'.trans sc).trans sd
      have eD := sT _ _ eD
      have hacc := paired_imp hacc fun _ _ q => q.kt sT.kt
      have hl := Paired.length hacc
      refine ⟨acc, eD, ?_, (sa.trans sT).mt hD, acc ++ [.ref q2], upd_same, ?_⟩
      · rw [hl, List.length_take]
        exact Nat.lt_of_le_of_lt (Nat.min_le_right _ _) (show ownE0.length < sizeLine by decide)
      · rw [List.take_add_one, own_get ho]
        exact ev_snoc eD hacc ⟨q2, .ref q1, rfl, .inl (.inl pd), ⟨q1, rfl, .inl (.inl (sd _ _ pc))⟩⟩
    · rintro D Ha hD ⟨sa, acc, eD, hacc⟩
      exact r _ _ ⟨D, acc, rfl, sa, eD, hacc⟩
  rintro _ H6 ⟨pe, vs, rfl, s6, ee, hv⟩
  refine sasg_cut (Src := fun v H7 => ∃ pe vs, v = .ref pe ∧ Same H6 H7 ∧ H7 pe = some (.lst vs) ∧ Paired (EvAt K H7) vs (ownE0 ++ ownE1)) (fun R r => ?_) ?_
  · simp only [tSl, tPart, tNoPart, tCKw, tVals, gStar, gCons, gNil, StX.tStar, tFmtS, tFmtI, tM0, tJs, tM1, rNewStrs, tMatch, setAll, lit_to, lit_page, lit_section, lit_gone, lit_exact, lit_open, tSeq, tAsg, tIfS, tRet, tRetN, tDrop, tNext, tNever, tOr, tAnd, tNot, tB, tTest, tCB, tCons, tVar, tC, tNil, tOp, tUn, tIf, tAndV, tOrV, tNotV, tChain, tTup, tLst, tCallR, tMethN, tMakeN, tPropN, tYes, gName, cx_K, cx_P, cx_w, rI0, rI, rEq, rNe, List.getElem?_cons_zero, List.getElem?_cons_succ, List.set_cons_zero, List.set_cons_succ, Option.some.injEq, exists_eq_left', exists_eq_left, V.bl.injEq, V.int.injEq, V.str.injEq, V.ref.injEq, List.cons.injEq, and_true, true_and, exists_and_left, and_assoc, List.append_nil, rCat]
    rw [lit_merge, lit_at, lit_into, lit_move, lv_for] at *
    refine ⟨szl rfl, fun q1 h1 => ?_⟩
    obtain ⟨Hc, ec, sc, pc⟩ := nw_step (.tup [.int 1, vW sMerge, vW sPage, vW sTo, vW sAt]) h1
    rw [ec]
    refine ⟨szl rfl, fun q2 h2 => ?_⟩
    obtain ⟨Hd, ed, sd, pd⟩ := nw_step (.tup [vW sTo, vW sInto]) h2
    rw [ed]
    refine ⟨szl rfl, fun q3 h3 => ?_⟩
    obtain ⟨He, ee', se, pe'⟩ := nw_step (.tup [.int 2, vW sMove, vW sSection, vW sFor, .ref q2]) h3
    rw [ee']
    refine ⟨szl rfl, fun q4 h4 => ?_⟩
    obtain ⟨Hf, ef, sf, pf⟩ := nw_step (.lst [.ref q1, .ref q3]) h4
    rw [ef]
    have sT := ((sc.trans sd).trans se).trans sf
    have hl := Paired.length hv
    refine ⟨_, sT _ _ ee, _, pf, ?_, fun q5 h5 => ?_⟩
    · rw [hl]
      exact szl rfl
    have sg := (Same.refl Hf).nw (o := .lst (vs ++ [.ref q1, .ref q3])) h5
    refine r _ _ ⟨q5, _, rfl, sT.trans sg, upd_same, paired_imp (paired_app (paired_imp hv fun _ _ q => q.kt sT.kt) (.cons ?_ (.cons ?_ .nil))) fun _ _ q => q.kt sg.kt⟩
    · exact ⟨q1, rfl, .inl (.inl (sf _ _ (se _ _ (sd _ _ pc))))⟩
    · exact ⟨q3, .ref q2, rfl, .inl (.inl (sf _ _ pe')), ⟨q2, rfl, .inl (.inl (sf _ _ (se _ _ pd)))⟩⟩
  clear ee hv
  rintro _ H7 ⟨pe, vs, rfl, s7, ee, hv⟩
  refine sasg_cut (Src := fun v H8 => ∃ pe vs, v = .ref pe ∧ Same H7 H8 ∧ H8 pe = some (.lst vs) ∧ Paired (EvAt K H8) vs ownEs) (fun R r => ?_) ?_
  · simp only [tSl, tPart, tNoPart, tCKw, tVals, gStar, gCons, gNil, StX.tStar, tFmtS, tFmtI, tM0, tJs, tM1, rNewStrs, tMatch, setAll, lit_to, lit_page, lit_section, lit_gone, lit_exact, lit_open, tSeq, tAsg, tIfS, tRet, tRetN, tDrop, tNext, tNever, tOr, tAnd, tNot, tB, tTest, tCB, tCons, tVar, tC, tNil, tOp, tUn, tIf, tAndV, tOrV, tNotV, tChain, tTup, tLst, tCallR, tMethN, tMakeN, tPropN, tYes, gName, cx_K, cx_P, cx_w, rI0, rI, rEq, rNe, List.getElem?_cons_zero, List.getElem?_cons_succ, List.set_cons_zero, List.set_cons_succ, Option.some.injEq, exists_eq_left', exists_eq_left, V.bl.injEq, V.int.injEq, V.str.injEq, V.ref.injEq, List.cons.injEq, and_true, true_and, exists_and_left, and_assoc, List.append_nil, rCat]
    rw [lit_take, lit_at, lit_bring] at *
    refine ⟨szl rfl, fun q1 h1 => ?_⟩
    obtain ⟨Hc, ec, sc, pc⟩ := nw_step (.tup [.int 2, vW sTake, vW sPage, vW sAt]) h1
    rw [ec]
    refine ⟨szl rfl, fun q2 h2 => ?_⟩
    obtain ⟨Hd, ed, sd, pd⟩ := nw_step (.tup [vW sBring]) h2
    rw [ed]
    refine ⟨szl rfl, fun q3 h3 => ?_⟩
    obtain ⟨He, ee', se, pe'⟩ := nw_step (.tup [.int 3, vW sBring, vW sPage, vW sTo, .ref q2]) h3
    rw [ee']
    refine ⟨szl rfl, fun q4 h4 => ?_⟩
    obtain ⟨Hf, ef, sf, pf⟩ := nw_step (.lst [.ref q1, .ref q3]) h4
    rw [ef]
    have sT := ((sc.trans sd).trans se).trans sf
    have hl := Paired.length hv
    refine ⟨_, sT _ _ ee, _, pf, ?_, fun q5 h5 => ?_⟩
    · rw [hl]
      exact szl rfl
    have sg := (Same.refl Hf).nw (o := .lst (vs ++ [.ref q1, .ref q3])) h5
    refine r _ _ ⟨q5, _, rfl, sT.trans sg, upd_same, paired_imp (paired_app (paired_imp hv fun _ _ q => q.kt sT.kt) (.cons ?_ (.cons ?_ .nil))) fun _ _ q => q.kt sg.kt⟩
    · exact ⟨q1, rfl, .inl (.inl (sf _ _ (se _ _ (sd _ _ pc))))⟩
    · exact ⟨q3, .ref q2, rfl, .inl (.inl (sf _ _ pe')), ⟨q2, rfl, .inl (.inl (sf _ _ (se _ _ pd)))⟩⟩
  clear ee hv
  rintro _ H8 ⟨pe, vs, rfl, s8, ee, hv⟩
  have s58 := (s6.trans s7).trans s8
  have okE := own_ca.last.okE
  rw [doAll_ev] at okE
  have okE : ∀ x ∈ ownEs, OkEv x := okE
  have hevO : (SS.nil.doAll ownEs).ev = ownEs := doAll_ev ownEs SS.nil
  refine sasg_cut (Src := fun v H9 => v = .str (T (tSt ownEs)) ∧ Same H8 H9) (fun R r => ?_) ?_
  · simp only [tSl, tPart, tNoPart, tCKw, tVals, gStar, gCons, gNil, StX.tStar, tFmtS, tFmtI, tM0, tJs, tM1, rNewStrs, tMatch, setAll, lit_to, lit_page, lit_section, lit_gone, lit_exact, lit_open, tSeq, tAsg, tIfS, tRet, tRetN, tDrop, tNext, tNever, tOr, tAnd, tNot, tB, tTest, tCB, tCons, tVar, tC, tNil, tOp, tUn, tIf, tAndV, tOrV, tNotV, tChain, tTup, tLst, tCallR, tMethN, tMakeN, tPropN, tYes, gName, cx_K, cx_P, cx_w, rI0, rI, rEq, rNe, List.getElem?_cons_zero, List.getElem?_cons_succ, List.set_cons_zero, List.set_cons_succ, Option.some.injEq, exists_eq_left', exists_eq_left, V.bl.injEq, V.int.injEq, V.str.injEq, V.ref.injEq, List.cons.injEq, and_true, true_and, exists_and_left, and_assoc, List.append_nil]
    have hxl := Paired.length hv
    refine ⟨⟨_, rfl⟩, tLc_strs (walk_list (a := pe) (xs := vs)) (fun R r => ⟨_, rfl, pe, rfl, ⟨_, SqL.of ee⟩, r⟩) (ownEs.map tEv) (by rw [List.length_map, hxl]) (by rw [hxl]; decide) (fun H' s => SqL.of (s _ _ ee)) (fun _ => rfl) ?_ ?_⟩
    · rintro i' x H12 H13 l' Q' hl' s12 ⟨rfl, hxi⟩ k'
      obtain ⟨e, hei, hea⟩ := paired_get hv hxi
      rw [List.getElem?_map, hei] at hl'
      cases hl'
      simp only [tSl, tPart, tNoPart, tCKw, tVals, gStar, gCons, gNil, StX.tStar, tFmtS, tFmtI, tM0, tJs, tM1, rNewStrs, tMatch, setAll, lit_to, lit_page, lit_section, lit_gone, lit_exact, lit_open, tSeq, tAsg, tIfS, tRet, tRetN, tDrop, tNext, tNever, tOr, tAnd, tNot, tB, tTest, tCB, tCons, tVar, tC, tNil, tOp, tUn, tIf, tAndV, tOrV, tNotV, tChain, tTup, tLst, tCallR, tMethN, tMakeN, tPropN, tYes, gName, cx_K, cx_P, cx_w, rI0, rI, rEq, rNe, List.getElem?_cons_zero, List.getElem?_cons_succ, List.set_cons_zero, List.set_cons_succ, Option.some.injEq, exists_eq_left', exists_eq_left, V.bl.injEq, V.int.injEq, V.str.injEq, V.ref.injEq, List.cons.injEq, and_true, true_and, exists_and_left, and_assoc, List.append_nil, wipe, List.map_cons, List.map_nil]
      exact ⟨_, rfl, e, hea.kt s12.kt, okE e (List.mem_of_getElem? hei), k'⟩
    · intro q H12 hq s12 e12
      refine ⟨q, rfl, (ownEs.map tEv).map T, .inl (SqL.of e12), ?_, ?_⟩
      · rw [lx_nl]
        exact join_len (evs_lens okE) (by decide) (by rw [List.length_map]; decide)
      · rw [lx_nl, join_T]
        exact r _ _ ⟨rfl, s12⟩
  rintro _ H9 ⟨rfl, s9⟩
  have s59 := s58.trans s9
  have t9 := t5.ext s59
  have e1 := s59 _ _ e1
  have ln := ln.mono s59
  refine seq_cut (Src := fun σ H10 => σ = [some (.ref a), o1, o2, o3, some (.ref p1), some (.ref pe), o6, o7, o8, some (.str (T (tSt ownEs))), o10, o11, o12, o13, some (.ref pw), o15, some (.ref ps), o17] ∧ ExtN H9 H10) (fun R r => ?_) ?_
  · simp only [tSl, tPart, tNoPart, tCKw, tVals, gStar, gCons, gNil, StX.tStar, tFmtS, tFmtI, tM0, tJs, tM1, rNewStrs, tMatch, setAll, lit_to, lit_page, lit_section, lit_gone, lit_exact, lit_open, tSeq, tAsg, tIfS, tRet, tRetN, tDrop, tNext, tNever, tOr, tAnd, tNot, tB, tTest, tCB, tCons, tVar, tC, tNil, tOp, tUn, tIf, tAndV, tOrV, tNotV, tChain, tTup, tLst, tCallR, tMethN, tMakeN, tPropN, tYes, gName, cx_K, cx_P, cx_w, rI0, rI, rEq, rNe, List.getElem?_cons_zero, List.getElem?_cons_succ, List.set_cons_zero, List.set_cons_succ, Option.some.injEq, exists_eq_left', exists_eq_left, V.bl.injEq, V.int.injEq, V.str.injEq, V.ref.injEq, List.cons.injEq, and_true, true_and, exists_and_left, and_assoc, List.append_nil]
    refine ⟨_, rfl, p1, p1, xs, ownHs, rfl, e1, ln, own_hs, t9, fun Ha sa ta => ⟨_, rfl, ownHs, rfl, own_hs, fun sv Hb sb hsv0 hsv => ⟨_, rfl, sv, _, rfl, hsv, own_hs.srt, fun Hc sc => ⟨_, rfl, p1, p1, xs, ownHs, rfl, ?_, ?_, own_hs, ?_, fun Hd sd td => ⟨rfl, ?_⟩⟩⟩⟩⟩
    · exact sc _ _ (sb _ _ (sa _ _ e1 (fun _ z => nomatch z)))
    · exact ((ln.en sa).mono sb).mono sc
    · exact (ta.ext sb).ext sc
    · rw [show tSv (ownHs.map srt) = tSv ownHs by unfold tSv; rw [lnSv_srt], decide_eq_true rfl]
      exact iteF (r _ _ ⟨rfl, ((sa.trans (ExtN.of sb)).trans (ExtN.of sc)).trans sd⟩)
  rintro _ H10 ⟨rfl, x10⟩
  have ee := x10 _ _ (s9 _ _ ee) (fun _ z => nomatch z)
  have hv := paired_imp (paired_imp hv fun _ _ q => q.kt s9.kt) fun _ _ q => q.kt x10.kt
  refine sif_nx (fun R r => ?_) fun H11 s11 => ?_
  · simp only [tSl, tPart, tNoPart, tCKw, tVals, gStar, gCons, gNil, StX.tStar, tFmtS, tFmtI, tM0, tJs, tM1, rNewStrs, tMatch, setAll, lit_to, lit_page, lit_section, lit_gone, lit_exact, lit_open, tSeq, tAsg, tIfS, tRet, tRetN, tDrop, tNext, tNever, tOr, tAnd, tNot, tB, tTest, tCB, tCons, tVar, tC, tNil, tOp, tUn, tIf, tAndV, tOrV, tNotV, tChain, tTup, tLst, tCallR, tMethN, tMakeN, tPropN, tYes, gName, cx_K, cx_P, cx_w, rI0, rI, rEq, rNe, List.getElem?_cons_zero, List.getElem?_cons_succ, List.set_cons_zero, List.set_cons_succ, Option.some.injEq, exists_eq_left', exists_eq_left, V.bl.injEq, V.int.injEq, V.str.injEq, V.ref.injEq, List.cons.injEq, and_true, true_and, exists_and_left, and_assoc, List.append_nil]
    refine ⟨_, rfl, pe, vs, ownEs, rfl, ee, hv, own_ca, fun sb p2 Ha sa _ _ St => ⟨_, rfl, sb, _, p2, rfl, St, own_ca.last, fun Hb sb' => ⟨rfl, ?_⟩⟩⟩
    rw [hevO, decide_eq_true rfl]
    refine iteF ⟨_, rfl, ownEs, rfl, own_ca, fun sc p3 Hc sc' _ _ St3 => ⟨_, rfl, pe, vs, ownEs, rfl, sc' _ _ (sb' _ _ (sa _ _ ee)), paired_imp (paired_imp (paired_imp hv fun _ _ q => q.kt sa.kt) fun _ _ q => q.kt sb'.kt) fun _ _ q => q.kt sc'.kt, own_ca, fun sd p4 Hd sd' _ _ St4 => ⟨dIns_st (St3.mono sd') St4 rfl (by rw [hevO]; exact okE), fun He se => ⟨true, rfl, r _ ?_⟩⟩⟩⟩
    exact (((sa.trans sb').trans sc').trans sd').trans se
  have okN : OkHs [] := ⟨(fun _ z => nomatch z), (fun _ z => nomatch z), .nil, Nat.zero_le _⟩
  simp only [tSl, tPart, tNoPart, tCKw, tVals, gStar, gCons, gNil, StX.tStar, tFmtS, tFmtI, tM0, tJs, tM1, rNewStrs, tMatch, setAll, lit_to, lit_page, lit_section, lit_gone, lit_exact, lit_open, tSeq, tAsg, tIfS, tRet, tRetN, tDrop, tNext, tNever, tOr, tAnd, tNot, tB, tTest, tCB, tCons, tVar, tC, tNil, tOp, tUn, tIf, tAndV, tOrV, tNotV, tChain, tTup, tLst, tCallR, tMethN, tMakeN, tPropN, tYes, gName, cx_K, cx_P, cx_w, rI0, rI, rEq, rNe, List.getElem?_cons_zero, List.getElem?_cons_succ, List.set_cons_zero, List.set_cons_succ, Option.some.injEq, exists_eq_left', exists_eq_left, V.bl.injEq, V.int.injEq, V.str.injEq, V.ref.injEq, List.cons.injEq, and_true, true_and, exists_and_left, and_assoc, List.append_nil]
  intro x dx hx hdx hne
  have sT := ((Same.refl H11).nw (o := .own x) hdx).nw (o := .ins a_Server dx []) ((upd_ne hne.symm).trans hx)
  refine ⟨_, rfl, x, dx, rfl, upd_same, fun Ha sa sv => ⟨rfl, _, rfl, x, [], rfl, sv, okN, fun Hb sb => ⟨rfl, ?_⟩⟩⟩
  rw [lz_nil, decide_eq_true (show V.str (T (tSv [])) = .str (T []) from rfl)]
  refine iteT ⟨_, rfl, [], rfl, okN, fun fr Hc sc hfr svf => ?_⟩
  intro y dy hy hdy hney
  have sU := ((Same.refl Hc).nw (o := .own y) hdy).nw (o := .ins a_Server dy []) ((upd_ne hney.symm).trans hy)
  refine ⟨_, rfl, y, dy, rfl, upd_same, fun Hd sd sv2 => ⟨rfl, dIns_sv (svf.mono (SameB.old (H1 := upd (upd Hc dy (.own y)) y (.ins a_Server dy [])) sU hy sd)) sv2 (srt_pair []) (fun _ z => nomatch z), fun He se => ⟨true, rfl, iteT ?_⟩⟩⟩
  refine ⟨_, rfl, [], rfl, nilWf, fun cp p3 Hf sf _ _ st3 => ?_⟩
  intro z dz hz hdz hnez
  have sV := ((Same.refl Hf).nw (o := .own z) hdz).nw (o := .ins a_Site dz []) ((upd_ne hnez.symm).trans hz)
  exact ⟨_, rfl, z, dz, rfl, upd_same, fun Hg p4 sg _ st4 => ⟨rfl, dIns_st (st3.mono (SameB.old (H1 := upd (upd Hf dz (.own z)) z (.ins a_Site dz [])) sV hz sg)) st4 rfl (fun _ z => nomatch z), fun Hh sh => k Hh⟩⟩
end
end K88
set_option maxHeartbeats 0
/-! The end. -/
namespace K88
open PySem PySem.Spec PyProof.Rows L2 LamX
theorem law_at (w : World) (mg : Str → Option Value) (fa : Addr) (h : Heap) (Y : hq.says w h) (G : h.Ns mainGlobals mg) (hmg : mg ("law" : Str) = some (.ref fa)) :
    ∃ K : PySem.W.Frag, K.In h ∧ LawAtS PySem.Challenge.rw_leadsever_k88_whole_texts_of_servers_and w K CX0 13 63 "_law_script" mg fa h := by
  obtain ⟨K, KX, c, l⟩ := Y
  have L := lw_of KX G c
  have e := hmg.symm.trans L.g_law
  cases e
  obtain ⟨fd, F⟩ := L.law
  have b := FunD.bindsA (ps := ["_law_script"]) F fun _ _ _ _ _ _ us hl => match us, hl with | [_], _ => rfl
  refine ⟨K, KX, fd, [(919, 917)], sp1 (p_law K 917), fun p hp => ?_, fun p hp => ?_, fun p hp => ?_, fun s v => b s [v] rfl, fun H a ns hl hb ht hS => ⟨_, rfl, a, ns, rfl, hS, hl, hb, TabS.nil (ht _ (List.mem_singleton.mpr rfl)), fun _ => rfl⟩, fun base KB GB TB => ?_⟩
  · rw [List.mem_singleton.mp hp]
    exact l.empty
  · rw [List.mem_singleton.mp hp]
    exact l.out
  · rw [List.mem_singleton.mp hp]
    exact PySem.W.codeHd_of_K KX l.hd
  · exact ok_law F L ⟨l.lk, TB _ (List.mem_singleton.mpr rfl)⟩
end K88
open PySem PySem.W PySem.Calls PyProof.Rows
theorem PySem.Challenge.cw_leadsever_k88_whole_texts_of_servers_and_holds : PySem.Challenge.rw_leadsever_k88_whole_texts_of_servers_and.Holds := by
  w_on; o_law
  refine HandSHeadRun.head_any (r := OpenLaw.row PySem.Challenge.rw_leadsever_k88_whole_texts_of_servers_and) (q := view (OpenLaw.row PySem.Challenge.rw_leadsever_k88_whole_texts_of_servers_and).prog [83]) (H := K88.hq) (ob := K88.obq) (M := 30000) (loose := K88.nms) (d := HandSHeadRun.topDef (OpenLaw.row PySem.Challenge.rw_leadsever_k88_whole_texts_of_servers_and).prog 83) (kwd := []) K88.obq_eq
    (by kernel_rfl) (fun s => by kernel_rfl) K88.run (by kernel_rfl) (by kernel_rfl) (by kernel_rfl) (by rfl) (by first | assumption | decide +kernel) (by decide +kernel) ⟨rfl, rfl, rfl, rfl, rfl, by decide +kernel⟩ ?hw ?hc
  case hw => w_witness2
  case hc =>
    refine LamX.walk_ofTsE (l := PySem.Challenge.rw_leadsever_k88_whole_texts_of_servers_and) (n := 63) (k := 13) (x := "_law_script") (CX := fun _ => L2.CX0) rfl (by decide) (by kernel_rfl) ⟨rfl, by decide, by decide⟩ ?F (fun _ _ _ _ _ z => z)
    intro w mg fa h Y G hmg0
    have hmg : mg ("law" : PySem.Str) = some (.ref fa) := by
      have e : (HandSHeadRun.topDef (OpenLaw.row PySem.Challenge.rw_leadsever_k88_whole_texts_of_servers_and).prog 83).name = ("law" : PySem.Str) := by kernel_rfl
      rw [← e]
      exact hmg0
    exact K88.law_at w mg fa h Y G hmg
